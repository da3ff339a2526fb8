/- Contracts of the functions that the law FnExactQueueIn reaches, part 0: each comes to what its pure function tells. Written by a program of this session. Conditions: as each statement tells. -/
import Derived.Test.YtplmeeookgefnaaBFnExactQueueIn
namespace Go.Proofs.Ytplmeeookgefnaa.A
open Go Go.Proofs Go.Proofs.YtplmeeookgefnaaAL Go.RowKit
set_option linter.unusedVariables false
set_option linter.unusedSimpArgs false
set_option maxRecDepth 100000
set_option maxHeartbeats 2000000
noncomputable section
def impl_within_res (r : Bool) : AV := .sv (.bool r)
def impl_within_obs (r : Bool) : Objs := []
theorem impl_within_ac {p0 : Int} {p1 : Int} {p2 : Int} {r : Bool} (h : impl_within p0 p1 p2 = some r) : AC Try.prog 102 [.sv (.int .i64 p0), .sv (.int .i64 p1), .sv (.int .i64 p2)] [] (impl_within_res r) (impl_within_obs r) := by
  refine ac_of_body hT Try.func102 rfl fun C hC => ?_
  unfold impl_within at h
  refine s_reg ?_
  refine v_op hT hC rfl rfl rfl rfl trivial ?_
  refine Vc.nil ?_
  refine live [0, 1, 2, 6] [] (s' := [_, _, _, _]) (o' := []) rfl rfl ?_
  obtain ⟨v1, h1, h⟩ := bnd_some h
  refine aw_to ([(6, .sv (.bool v1)), (0, .any), (1, .any), (2, .any)], []) ?_ ?_
  · have h := h1
    refine aw_region ?_
    iterate 4 refine v_op hT hC rfl rfl rfl rfl trivial ?_
    rcases sel_some h with ⟨hb1, h⟩ | ⟨hb1, h⟩
    · iterate 3 refine v_on hT hC rfl rfl rfl rfl hb1 rfl rfl rfl trivial ?_
      refine v_pick hC rfl rfl rfl (b := true) hb1 rfl rfl rfl trivial ?_
      refine v_op hT hC rfl rfl rfl rfl trivial ?_
      refine Vc.nil ?_
      injection h with h
      subst h
      refine m_norm ?_
      apply w_conv hC []
      · repeat' first | exact CO.nil | apply CO.gone | apply CO.row rfl rfl | apply CO.box rfl rfl | decide
      · rfl
      · decide
      · rfl
    · refine v_off hC rfl rfl rfl rfl hb1 rfl rfl ?_
      refine v_off hC rfl rfl rfl rfl hb1 rfl rfl ?_
      refine v_off hC rfl rfl rfl rfl hb1 rfl rfl ?_
      refine v_pick hC rfl rfl rfl (b := false) hb1 rfl rfl rfl trivial ?_
      refine v_op hT hC rfl rfl rfl rfl trivial ?_
      refine Vc.nil ?_
      injection h with h
      subst h
      refine m_norm ?_
      apply w_conv hC []
      · repeat' first | exact CO.nil | apply CO.gone | apply CO.row rfl rfl | apply CO.box rfl rfl | decide
      · rfl
      · decide
      · rfl
  refine aw_ret ?_
  injection h with h
  subst h
  exact ends (Weak.refl _) rfl trivial
def spec_l01In_res (r : Bool) : AV := .sv (.bool r)
def spec_l01In_obs (r : Bool) : Objs := []
theorem spec_l01In_ac {p0 : Int} {p1 : Int} {p2 : Int} {r : Bool} (h : spec_l01In p0 p1 p2 = some r) : AC Try.prog 106 [.sv (.int .i64 p0), .sv (.int .i64 p1), .sv (.int .i64 p2)] [] (spec_l01In_res r) (spec_l01In_obs r) := by
  refine ac_of_body hT Try.func106 rfl fun C hC => ?_
  unfold spec_l01In at h
  refine s_reg ?_
  refine v_op hT hC rfl rfl rfl rfl trivial ?_
  refine Vc.nil ?_
  refine live [0, 1, 2, 6] [] (s' := [_, _, _, _]) (o' := []) rfl rfl ?_
  obtain ⟨v1, h1, h⟩ := bnd_some h
  refine aw_to ([(6, .sv (.bool v1)), (0, .any), (1, .any), (2, .any)], []) ?_ ?_
  · have h := h1
    refine aw_region ?_
    iterate 4 refine v_op hT hC rfl rfl rfl rfl trivial ?_
    rcases sel_some h with ⟨hb1, h⟩ | ⟨hb1, h⟩
    · iterate 3 refine v_on hT hC rfl rfl rfl rfl hb1 rfl rfl rfl trivial ?_
      refine v_pick hC rfl rfl rfl (b := true) hb1 rfl rfl rfl trivial ?_
      refine v_op hT hC rfl rfl rfl rfl trivial ?_
      refine Vc.nil ?_
      injection h with h
      subst h
      refine m_norm ?_
      apply w_conv hC []
      · repeat' first | exact CO.nil | apply CO.gone | apply CO.row rfl rfl | apply CO.box rfl rfl | decide
      · rfl
      · decide
      · rfl
    · refine v_off hC rfl rfl rfl rfl hb1 rfl rfl ?_
      refine v_off hC rfl rfl rfl rfl hb1 rfl rfl ?_
      refine v_off hC rfl rfl rfl rfl hb1 rfl rfl ?_
      refine v_pick hC rfl rfl rfl (b := false) hb1 rfl rfl rfl trivial ?_
      refine v_op hT hC rfl rfl rfl rfl trivial ?_
      refine Vc.nil ?_
      injection h with h
      subst h
      refine m_norm ?_
      apply w_conv hC []
      · repeat' first | exact CO.nil | apply CO.gone | apply CO.row rfl rfl | apply CO.box rfl rfl | decide
      · rfl
      · decide
      · rfl
  refine aw_ret ?_
  injection h with h
  subst h
  exact ends (Weak.refl _) rfl trivial
def spec_Brought_res (r : Int) : AV := .sv (.int .i64 r)
def spec_Brought_obs (r : Int) : Objs := []
theorem spec_Brought_ac {p0 : Int} {p1 : Int} {p2 : Int} {r : Int} (h : spec_Brought p0 p1 p2 = some r) : AC Try.prog 190 [.sv (.int .i64 p0), .sv (.int .i64 p1), .sv (.int .i64 p2)] [] (spec_Brought_res r) (spec_Brought_obs r) := by
  refine ac_of_body hT Try.func190 rfl fun C hC => ?_
  unfold spec_Brought at h
  refine s_reg ?_
  refine v_op hT hC rfl rfl rfl rfl trivial ?_
  refine Vc.nil ?_
  refine s_in ?_
  refine live [0, 1, 2] [] (s' := [_, _, _]) (o' := []) rfl rfl ?_
  obtain ⟨v1, h1, h⟩ := bnd_some h
  refine aw_to ([(14, .sv (.bool v1))], []) ?_ ?_
  · have h := h1
    refine aw_region ?_
    iterate 4 refine v_op hT hC rfl rfl rfl rfl trivial ?_
    rcases sel_some h with ⟨hb1, h⟩ | ⟨hb1, h⟩
    · refine v_off hC rfl rfl rfl rfl hb1 rfl rfl ?_
      refine v_off hC rfl rfl rfl rfl hb1 rfl rfl ?_
      refine v_off hC rfl rfl rfl rfl hb1 rfl rfl ?_
      refine v_pick hC rfl rfl rfl (b := true) hb1 rfl rfl rfl trivial ?_
      refine Vc.nil ?_
      injection h with h
      subst h
      refine m_norm ?_
      apply w_conv hC []
      · repeat' first | exact CO.nil | apply CO.gone | apply CO.row rfl rfl | apply CO.box rfl rfl | decide
      · rfl
      · decide
      · rfl
    · iterate 3 refine v_on hT hC rfl rfl rfl rfl hb1 rfl rfl rfl trivial ?_
      refine v_pick hC rfl rfl rfl (b := false) hb1 rfl rfl rfl trivial ?_
      refine Vc.nil ?_
      injection h with h
      subst h
      refine m_norm ?_
      apply w_conv hC []
      · repeat' first | exact CO.nil | apply CO.gone | apply CO.row rfl rfl | apply CO.box rfl rfl | decide
      · rfl
      · decide
      · rfl
  rcases sel_some h with ⟨hb2, h⟩ | ⟨hb2, h⟩
  · refine s_true rfl hb2 ?_
    refine s_reg ?_
    iterate 2 refine v_op hT hC rfl rfl rfl rfl trivial ?_
    refine Vc.nil ?_
    refine aw_ret ?_
    refine t_ret ?_
    injection h with h
    subst h
    exact ends (Weak.refl _) rfl trivial
  · refine s_false rfl hb2 ?_
    refine aw_skip ?_
    refine t_norm ?_
    refine s_in ?_
    refine s_reg ?_
    iterate 3 refine v_op hT hC rfl rfl rfl rfl trivial ?_
    refine Vc.nil ?_
    rcases sel_some h with ⟨hb3, h⟩ | ⟨hb3, h⟩
    · refine s_true rfl hb3 ?_
      refine s_reg ?_
      iterate 2 refine v_op hT hC rfl rfl rfl rfl trivial ?_
      refine Vc.nil ?_
      refine aw_ret ?_
      refine t_ret ?_
      injection h with h
      subst h
      exact ends (Weak.refl _) rfl trivial
    · refine s_false rfl hb3 ?_
      refine aw_skip ?_
      refine t_norm ?_
      refine s_reg ?_
      iterate 2 refine v_op hT hC rfl rfl rfl rfl trivial ?_
      refine Vc.nil ?_
      refine aw_ret ?_
      injection h with h
      subst h
      exact ends (Weak.refl _) rfl trivial
def laws_szPacket_res (r : Int) : AV := .sv (.int .i64 r)
def laws_szPacket_obs (r : Int) : Objs := []
theorem laws_szPacket_ac {p0 : Packet} {p1 : Int} {r : Int} (h : laws_szPacket p0 p1 = some r) : AC Try.prog 63 [.agg [.sv (.int .i64 p0.Seq), .sv (.bool p0.First), .sv (.bool p0.Last), .sv (.str p0.Bytes)], .sv (.int .i64 p1)] [] (laws_szPacket_res r) (laws_szPacket_obs r) := by
  refine ac_of_body hT Try.func63 rfl fun C hC => ?_
  unfold laws_szPacket at h
  refine s_reg ?_
  iterate 2 refine v_op hT hC rfl rfl rfl rfl trivial ?_
  refine Vc.nil ?_
  refine s_reg ?_
  iterate 6 refine v_op hT hC rfl rfl rfl rfl trivial ?_
  refine Vc.nil ?_
  refine s_in ?_
  refine s_reg ?_
  iterate 2 refine v_op hT hC rfl rfl rfl rfl trivial ?_
  refine Vc.nil ?_
  rcases sel_some h with ⟨hb1, h⟩ | ⟨hb1, h⟩
  · refine s_true rfl hb1 ?_
    refine s_reg ?_
    refine v_op hT hC rfl rfl rfl rfl trivial ?_
    refine Vc.nil ?_
    refine aw_ret ?_
    refine t_ret ?_
    injection h with h
    subst h
    exact ends (Weak.refl _) rfl trivial
  · refine s_false rfl hb1 ?_
    refine aw_skip ?_
    refine t_norm ?_
    refine s_reg ?_
    iterate 2 refine v_op hT hC rfl rfl rfl rfl trivial ?_
    refine Vc.nil ?_
    refine aw_ret ?_
    injection h with h
    subst h
    exact ends (Weak.refl _) rfl trivial
def laws_szPacketS_res (r : Int) : AV := .sv (.int .i64 r)
def laws_szPacketS_obs (r : Int) : Objs := []
theorem laws_szPacketS_ac {p0 : (List Packet)} {p1 : Int} {r : Int} (h : laws_szPacketS p0 p1 = some r) : AC Try.prog 38 [.sv (cPacket.sv p0), .sv (.int .i64 p1)] [] (laws_szPacketS_res r) (laws_szPacketS_obs r) := by
  refine ac_of_body hT Try.func38 rfl fun C hC => ?_
  unfold laws_szPacketS at h
  refine s_reg ?_
  refine v_op hT hC rfl rfl rfl rfl trivial ?_
  refine Vc.nil ?_
  refine s_reg ?_
  iterate 5 refine v_op hT hC rfl rfl rfl rfl trivial ?_
  refine Vc.nil ?_
  refine s_in ?_
  refine s_reg ?_
  iterate 2 refine v_op hT hC rfl rfl rfl rfl trivial ?_
  refine Vc.nil ?_
  rcases sel_some h with ⟨hb1, h⟩ | ⟨hb1, h⟩
  · refine s_true rfl hb1 ?_
    refine s_reg ?_
    refine v_op hT hC rfl rfl rfl rfl trivial ?_
    refine Vc.nil ?_
    refine aw_ret ?_
    refine t_ret ?_
    injection h with h
    subst h
    exact ends (Weak.refl _) rfl trivial
  · refine s_false rfl hb1 ?_
    refine aw_skip ?_
    refine t_norm ?_
    refine s_in ?_
    refine s_reg ?_
    refine v_op hT hC rfl rfl rfl rfl trivial ?_
    refine Vc.nil ?_
    refine live [0, 1, 5] [] (s' := [_, _, _]) (o' := []) rfl rfl ?_
    obtain ⟨o8, hl, h⟩ := bnd_some h
    refine s_loopR (fun v3 => ([(1, .sv (.int .i64 v3.1)), (5, .sv (.int .i64 v3.2))], [])) (fun v6 => ([(1, .sv (.int .i64 v6)), (0, .any), (5, .any)], [])) (fun r => EndsA C T Try.f38.results.toList (laws_szPacketS_res r) (laws_szPacketS_obs r)) hl ?_ ?_ ?_ ?_
    · try dsimp only
      apply w_conv hC []
      · repeat' first | exact CO.nil | apply CO.gone | apply CO.row rfl rfl | apply CO.box rfl rfl | decide
      · rfl
      · decide
      · rfl
    · intro v3 s hs
      have h := hs
      unfold laws_szPacketS_l2 at h
      refine s_in ?_
      refine s_reg ?_
      iterate 4 refine v_op hT hC rfl rfl rfl rfl trivial ?_
      refine Vc.nil ?_
      rcases sel_some h with ⟨hb6, h⟩ | ⟨hb6, h⟩
      · refine s_true rfl hb6 ?_
        refine aw_skip ?_
        refine t_norm ?_
        refine s_in ?_
        refine s_block ?_
        refine s_reg ?_
        iterate 2 refine v_op hT hC rfl rfl rfl rfl trivial ?_
        obtain ⟨hq, h⟩ := req_some h
        refine v_op hT hC rfl rfl rfl rfl hq ?_
        iterate 2 refine v_op hT hC rfl rfl rfl rfl trivial ?_
        obtain ⟨q7, hq, h⟩ := bnd_some h
        refine v_call hC [] rfl rfl rfl rfl Try.call63 (laws_szPacket_ac hq) rfl (by decide) trivial rfl (.inl rfl) rfl ?_
        refine v_op hT hC rfl rfl rfl rfl trivial ?_
        refine Vc.nil ?_
        refine s_reg ?_
        iterate 2 refine v_op hT hC rfl rfl rfl rfl trivial ?_
        refine Vc.nil ?_
        rcases sel_some h with ⟨hb7, h⟩ | ⟨hb7, h⟩
        · refine s_true rfl hb7 ?_
          refine s_reg ?_
          refine v_op hT hC rfl rfl rfl rfl trivial ?_
          refine Vc.nil ?_
          refine aw_ret ?_
          refine b_ret ?_
          refine t_ret ?_
          injection h with h
          subst h
          refine r_ret ?_
          refine o_ret ?_
          exact ends (Weak.refl _) rfl trivial
        · refine s_false rfl hb7 ?_
          refine aw_skip ?_
          refine b_norm ?_
          refine t_norm ?_
          refine aw_region ?_
          iterate 3 refine v_op hT hC rfl rfl rfl rfl trivial ?_
          refine Vc.nil ?_
          injection h with h
          subst h
          refine r_go ?_
          try dsimp only
          apply w_conv hC []
          · repeat' first | exact CO.nil | apply CO.gone | apply CO.row rfl rfl | apply CO.box rfl rfl | decide
          · rfl
          · decide
          · rfl
      · refine s_false rfl hb6 ?_
        refine aw_exit ?_
        refine t_exit ?_
        injection h with h
        subst h
        refine r_exit ?_
        refine o_both ?_
        apply w_conv hC []
        · repeat' first | exact CO.nil | apply CO.gone | apply CO.row rfl rfl | apply CO.box rfl rfl | decide
        · rfl
        · decide
        · rfl
    · intro v6 e
      subst e
      refine t_norm ?_
      refine s_reg ?_
      iterate 2 refine v_op hT hC rfl rfl rfl rfl trivial ?_
      refine Vc.nil ?_
      refine aw_ret ?_
      injection h with h
      subst h
      exact ends (Weak.refl _) rfl trivial
    · intro r' σ' e hE
      subst e
      injection h with h
      subst h
      refine t_ret ?_
      exact hE
def laws_toPacket_res (r : Packet) : AV := .agg [.sv (.int .i64 r.Seq), .sv (.bool r.First), .sv (.bool r.Last), .sv (.str r.Bytes)]
def laws_toPacket_obs (r : Packet) : Objs := []
theorem laws_toPacket_ac {p0 : Packet} {r : Packet} (h : laws_toPacket p0 = some r) : AC Try.prog 65 [.agg [.sv (.int .i64 p0.Seq), .sv (.bool p0.First), .sv (.bool p0.Last), .sv (.str p0.Bytes)]] [] (laws_toPacket_res r) (laws_toPacket_obs r) := by
  refine ac_of_body hT Try.func65 rfl fun C hC => ?_
  unfold laws_toPacket at h
  refine s_reg ?_
  iterate 2 refine v_op hT hC rfl rfl rfl rfl trivial ?_
  refine Vc.nil ?_
  refine s_reg ?_
  refine v_op hT hC rfl rfl rfl rfl trivial ?_
  refine Vc.nil ?_
  refine s_reg ?_
  iterate 4 refine v_op hT hC rfl rfl rfl rfl trivial ?_
  refine Vc.nil ?_
  refine s_reg ?_
  iterate 4 refine v_op hT hC rfl rfl rfl rfl trivial ?_
  refine Vc.nil ?_
  refine s_reg ?_
  iterate 4 refine v_op hT hC rfl rfl rfl rfl trivial ?_
  refine Vc.nil ?_
  refine s_reg ?_
  iterate 4 refine v_op hT hC rfl rfl rfl rfl trivial ?_
  refine Vc.nil ?_
  refine s_reg ?_
  iterate 2 refine v_op hT hC rfl rfl rfl rfl trivial ?_
  refine Vc.nil ?_
  refine aw_ret ?_
  injection h with h
  subst h
  exact ends (Weak.refl _) rfl trivial
def laws_toPacketS_res (r : (List Packet)) : AV := .own 16
def laws_toPacketS_obs (r : (List Packet)) : Objs := [(16, .row cPacket r)]
theorem laws_toPacketS_ac {p0 : (List Packet)} {r : (List Packet)} (h : laws_toPacketS p0 = some r) : AC Try.prog 40 [.sv (cPacket.sv p0)] [] (laws_toPacketS_res r) (laws_toPacketS_obs r) := by
  refine ac_of_body hT Try.func40 rfl fun C hC => ?_
  unfold laws_toPacketS at h
  refine s_reg ?_
  refine v_op hT hC rfl rfl rfl rfl trivial ?_
  refine Vc.nil ?_
  refine s_reg ?_
  iterate 2 refine v_op hT hC rfl rfl rfl rfl trivial ?_
  obtain ⟨hq, h⟩ := req_some h
  refine v_op hT hC rfl rfl rfl rfl ⟨hq.1, hq.2.1, hq.2.2, by decide⟩ ?_
  refine v_op hT hC rfl rfl rfl rfl trivial ?_
  refine Vc.nil ?_
  refine s_in ?_
  refine s_reg ?_
  refine v_op hT hC rfl rfl rfl rfl trivial ?_
  refine Vc.nil ?_
  refine live [0, 3, 4] [112] (s' := [_, _, _]) (o' := [_]) rfl rfl ?_
  obtain ⟨v8, hl, h⟩ := bnd_some h
  refine s_loop (fun v4 => ([(4, .sv (.int .i64 v4.1))], [(112, some (.row cPacket v4.2))])) (fun v8 => ([(0, .any), (4, .any)], [(112, some (.row cPacket v8))])) hl ?_ ?_ ?_
  · try dsimp only
    apply w_conv hC []
    · repeat' first | exact CO.nil | apply CO.gone | apply CO.row rfl rfl | apply CO.box rfl rfl | decide
    · rfl
    · decide
    · rfl
  · intro v4 s hs
    have h := hs
    unfold laws_toPacketS_l2 at h
    refine s_in ?_
    refine s_reg ?_
    iterate 4 refine v_op hT hC rfl rfl rfl rfl trivial ?_
    refine Vc.nil ?_
    rcases sel_some h with ⟨hb3, h⟩ | ⟨hb3, h⟩
    · refine s_true rfl hb3 ?_
      refine aw_skip ?_
      refine t_norm ?_
      refine s_in ?_
      refine s_block ?_
      refine aw_region ?_
      iterate 4 refine v_op hT hC rfl rfl rfl rfl trivial ?_
      obtain ⟨hq, h⟩ := req_some h
      refine v_op hT hC rfl rfl rfl rfl hq ?_
      refine v_op hT hC rfl rfl rfl rfl trivial ?_
      obtain ⟨q9, hq, h⟩ := bnd_some h
      refine v_call hC [] rfl rfl rfl rfl Try.call65 (laws_toPacket_ac hq) rfl (by decide) trivial rfl (.inl rfl) rfl ?_
      obtain ⟨hq, h⟩ := req_some h
      refine v_op hT hC rfl rfl rfl rfl hq ?_
      obtain ⟨hq, h⟩ := req_some h
      obtain ⟨s10, hs, h⟩ := bnd_some h
      injection hs with hs
      refine v_op hT hC rfl rfl rfl rfl hq ?_
      rw [hs]
      refine Vc.nil ?_
      refine b_norm ?_
      refine t_norm ?_
      refine aw_region ?_
      iterate 3 refine v_op hT hC rfl rfl rfl rfl trivial ?_
      refine Vc.nil ?_
      injection h with h
      subst h
      refine r_go ?_
      try dsimp only
      apply w_conv hC []
      · repeat' first | exact CO.nil | apply CO.gone | apply CO.row rfl rfl | apply CO.box rfl rfl | decide
      · rfl
      · decide
      · rfl
    · refine s_false rfl hb3 ?_
      refine aw_exit ?_
      refine t_exit ?_
      injection h with h
      subst h
      refine r_exit ?_
      refine o_out ?_
      apply w_conv hC []
      · repeat' first | exact CO.nil | apply CO.gone | apply CO.row rfl rfl | apply CO.box rfl rfl | decide
      · rfl
      · decide
      · rfl
  refine t_norm ?_
  refine s_reg ?_
  iterate 2 refine v_op hT hC rfl rfl rfl rfl trivial ?_
  refine Vc.nil ?_
  refine aw_ret ?_
  injection h with h
  subst h
  refine ends (τ := ⟨[(2, .own 16)], [(16, some (.row cPacket v8))]⟩) ?_ rfl ⟨rfl, trivial⟩
  apply w_conv hC [(16, 112)]
  · repeat' first | exact CO.nil | apply CO.gone | apply CO.row rfl rfl | apply CO.box rfl rfl | decide
  · rfl
  · decide
  · rfl
def spec_PacketOk_res (r : Bool) : AV := .sv (.bool r)
def spec_PacketOk_obs (r : Bool) : Objs := []
theorem spec_PacketOk_ac {p0 : Packet} {r : Bool} (h : spec_PacketOk p0 = some r) : AC Try.prog 124 [.agg [.sv (.int .i64 p0.Seq), .sv (.bool p0.First), .sv (.bool p0.Last), .sv (.str p0.Bytes)]] [] (spec_PacketOk_res r) (spec_PacketOk_obs r) := by
  refine ac_of_body hT Try.func124 rfl fun C hC => ?_
  unfold spec_PacketOk at h
  refine s_reg ?_
  iterate 2 refine v_op hT hC rfl rfl rfl rfl trivial ?_
  refine Vc.nil ?_
  refine live [1, 2] [16] (s' := [_, _]) (o' := [_]) rfl rfl ?_
  obtain ⟨v1, h1, h⟩ := bnd_some h
  refine aw_to ([(2, .sv (.bool v1)), (1, .any)], [(16, none)]) ?_ ?_
  · have h := h1
    refine aw_region ?_
    iterate 2 refine v_op hT hC rfl rfl rfl rfl trivial ?_
    obtain ⟨q2, hq, h⟩ := bnd_some h
    refine v_call hC [] rfl rfl rfl rfl Try.call106 (spec_l01In_ac hq) rfl (by decide) trivial rfl (.inl rfl) rfl ?_
    refine v_op hT hC rfl rfl rfl rfl trivial ?_
    rcases sel_some h with ⟨hb1, h⟩ | ⟨hb1, h⟩
    · iterate 3 refine v_on hT hC rfl rfl rfl rfl hb1 rfl rfl rfl trivial ?_
      obtain ⟨q3, hq, h⟩ := bnd_some h
      refine v_call_on hC [] rfl rfl rfl rfl hb1 rfl rfl rfl Try.call106 (spec_l01In_ac hq) rfl (by decide) trivial rfl (.inl rfl) rfl ?_
      refine v_pick hC rfl rfl rfl (b := true) hb1 rfl rfl rfl trivial ?_
      refine v_op hT hC rfl rfl rfl rfl trivial ?_
      refine Vc.nil ?_
      injection h with h
      subst h
      refine m_norm ?_
      apply w_conv hC []
      · repeat' first | exact CO.nil | apply CO.gone | apply CO.row rfl rfl | apply CO.box rfl rfl | decide
      · rfl
      · decide
      · rfl
    · refine v_off hC rfl rfl rfl rfl hb1 rfl rfl ?_
      refine v_off hC rfl rfl rfl rfl hb1 rfl rfl ?_
      refine v_off hC rfl rfl rfl rfl hb1 rfl rfl ?_
      refine v_off hC rfl rfl rfl rfl hb1 rfl rfl ?_
      refine v_pick hC rfl rfl rfl (b := false) hb1 rfl rfl rfl trivial ?_
      refine v_op hT hC rfl rfl rfl rfl trivial ?_
      refine Vc.nil ?_
      injection h with h
      subst h
      refine m_norm ?_
      apply w_conv hC []
      · repeat' first | exact CO.nil | apply CO.gone | apply CO.row rfl rfl | apply CO.box rfl rfl | decide
      · rfl
      · decide
      · rfl
  refine aw_ret ?_
  injection h with h
  subst h
  exact ends (Weak.refl _) rfl trivial
def spec_SeqPlus_res (r : Int) : AV := .sv (.int .i64 r)
def spec_SeqPlus_obs (r : Int) : Objs := []
theorem spec_SeqPlus_ac {p0 : Int} {p1 : Int} {r : Int} (h : spec_SeqPlus p0 p1 = some r) : AC Try.prog 125 [.sv (.int .i64 p0), .sv (.int .i64 p1)] [] (spec_SeqPlus_res r) (spec_SeqPlus_obs r) := by
  refine ac_of_body hT Try.func125 rfl fun C hC => ?_
  unfold spec_SeqPlus at h
  refine s_reg ?_
  refine v_op hT hC rfl rfl rfl rfl trivial ?_
  refine Vc.nil ?_
  refine s_in ?_
  refine live [0, 1] [] (s' := [_, _]) (o' := []) rfl rfl ?_
  obtain ⟨v1, h1, h⟩ := bnd_some h
  refine aw_to ([(12, .sv (.bool v1))], []) ?_ ?_
  · have h := h1
    refine aw_region ?_
    refine v_op hT hC rfl rfl rfl rfl trivial ?_
    obtain ⟨q2, hq, h⟩ := bnd_some h
    refine v_call hC [] rfl rfl rfl rfl Try.call106 (spec_l01In_ac hq) rfl (by decide) trivial rfl (.inl rfl) rfl ?_
    iterate 2 refine v_op hT hC rfl rfl rfl rfl trivial ?_
    rcases sel_some h with ⟨hb1, h⟩ | ⟨hb1, h⟩
    · refine v_on hT hC rfl rfl rfl rfl (congrArg Bool.not hb1) rfl rfl rfl trivial ?_
      obtain ⟨q3, hq, h⟩ := bnd_some h
      refine v_call_on hC [] rfl rfl rfl rfl (congrArg Bool.not hb1) rfl rfl rfl Try.call106 (spec_l01In_ac hq) rfl (by decide) trivial rfl (.inl rfl) rfl ?_
      refine v_on hT hC rfl rfl rfl rfl (congrArg Bool.not hb1) rfl rfl rfl trivial ?_
      refine v_pick hC rfl rfl rfl (b := false) (congrArg Bool.not hb1) rfl rfl rfl trivial ?_
      refine Vc.nil ?_
      injection h with h
      subst h
      refine m_norm ?_
      apply w_conv hC []
      · repeat' first | exact CO.nil | apply CO.gone | apply CO.row rfl rfl | apply CO.box rfl rfl | decide
      · rfl
      · decide
      · rfl
    · refine v_off hC rfl rfl rfl rfl (congrArg Bool.not hb1) rfl rfl ?_
      refine v_off hC rfl rfl rfl rfl (congrArg Bool.not hb1) rfl rfl ?_
      refine v_off hC rfl rfl rfl rfl (congrArg Bool.not hb1) rfl rfl ?_
      refine v_pick hC rfl rfl rfl (b := true) (congrArg Bool.not hb1) rfl rfl rfl trivial ?_
      refine Vc.nil ?_
      injection h with h
      subst h
      refine m_norm ?_
      apply w_conv hC []
      · repeat' first | exact CO.nil | apply CO.gone | apply CO.row rfl rfl | apply CO.box rfl rfl | decide
      · rfl
      · decide
      · rfl
  rcases sel_some h with ⟨hb2, h⟩ | ⟨hb2, h⟩
  · refine s_true rfl hb2 ?_
    refine s_reg ?_
    refine v_op hT hC rfl rfl rfl rfl trivial ?_
    refine Vc.nil ?_
    refine aw_ret ?_
    refine t_ret ?_
    injection h with h
    subst h
    exact ends (Weak.refl _) rfl trivial
  · refine s_false rfl hb2 ?_
    refine aw_skip ?_
    refine t_norm ?_
    refine s_reg ?_
    iterate 3 refine v_op hT hC rfl rfl rfl rfl trivial ?_
    obtain ⟨hq, h⟩ := req_some h
    refine v_op hT hC rfl rfl rfl rfl hq ?_
    refine v_op hT hC rfl rfl rfl rfl trivial ?_
    refine Vc.nil ?_
    refine aw_ret ?_
    injection h with h
    subst h
    exact ends (Weak.refl _) rfl trivial
def impl_isNumber_res (r : Bool) : AV := .sv (.bool r)
def impl_isNumber_obs (r : Bool) : Objs := []
theorem impl_isNumber_ac {p0 : Int} {r : Bool} (h : impl_isNumber p0 = some r) : AC Try.prog 144 [.sv (.int .i64 p0)] [] (impl_isNumber_res r) (impl_isNumber_obs r) := by
  refine ac_of_body hT Try.func144 rfl fun C hC => ?_
  unfold impl_isNumber at h
  refine s_reg ?_
  refine v_op hT hC rfl rfl rfl rfl trivial ?_
  refine Vc.nil ?_
  refine s_reg ?_
  refine v_op hT hC rfl rfl rfl rfl trivial ?_
  obtain ⟨q1, hq, h⟩ := bnd_some h
  refine v_call hC [] rfl rfl rfl rfl Try.call102 (impl_within_ac hq) rfl (by decide) trivial rfl (.inl rfl) rfl ?_
  refine v_op hT hC rfl rfl rfl rfl trivial ?_
  refine Vc.nil ?_
  refine aw_ret ?_
  injection h with h
  subst h
  exact ends (Weak.refl _) rfl trivial
def impl_PacketOk_res (r : Bool) : AV := .sv (.bool r)
def impl_PacketOk_obs (r : Bool) : Objs := []
theorem impl_PacketOk_ac {p0 : Packet} {r : Bool} (h : impl_PacketOk p0 = some r) : AC Try.prog 127 [.agg [.sv (.int .i64 p0.Seq), .sv (.bool p0.First), .sv (.bool p0.Last), .sv (.str p0.Bytes)]] [] (impl_PacketOk_res r) (impl_PacketOk_obs r) := by
  refine ac_of_body hT Try.func127 rfl fun C hC => ?_
  unfold impl_PacketOk at h
  refine s_reg ?_
  iterate 2 refine v_op hT hC rfl rfl rfl rfl trivial ?_
  refine Vc.nil ?_
  refine live [1, 2] [16] (s' := [_, _]) (o' := [_]) rfl rfl ?_
  obtain ⟨v1, h1, h⟩ := bnd_some h
  refine aw_to ([(2, .sv (.bool v1)), (1, .any)], [(16, none)]) ?_ ?_
  · have h := h1
    refine aw_region ?_
    iterate 2 refine v_op hT hC rfl rfl rfl rfl trivial ?_
    obtain ⟨q2, hq, h⟩ := bnd_some h
    refine v_call hC [] rfl rfl rfl rfl Try.call144 (impl_isNumber_ac hq) rfl (by decide) trivial rfl (.inl rfl) rfl ?_
    refine v_op hT hC rfl rfl rfl rfl trivial ?_
    rcases sel_some h with ⟨hb1, h⟩ | ⟨hb1, h⟩
    · iterate 3 refine v_on hT hC rfl rfl rfl rfl hb1 rfl rfl rfl trivial ?_
      obtain ⟨q3, hq, h⟩ := bnd_some h
      refine v_call_on hC [] rfl rfl rfl rfl hb1 rfl rfl rfl Try.call102 (impl_within_ac hq) rfl (by decide) trivial rfl (.inl rfl) rfl ?_
      refine v_pick hC rfl rfl rfl (b := true) hb1 rfl rfl rfl trivial ?_
      refine v_op hT hC rfl rfl rfl rfl trivial ?_
      refine Vc.nil ?_
      injection h with h
      subst h
      refine m_norm ?_
      apply w_conv hC []
      · repeat' first | exact CO.nil | apply CO.gone | apply CO.row rfl rfl | apply CO.box rfl rfl | decide
      · rfl
      · decide
      · rfl
    · refine v_off hC rfl rfl rfl rfl hb1 rfl rfl ?_
      refine v_off hC rfl rfl rfl rfl hb1 rfl rfl ?_
      refine v_off hC rfl rfl rfl rfl hb1 rfl rfl ?_
      refine v_off hC rfl rfl rfl rfl hb1 rfl rfl ?_
      refine v_pick hC rfl rfl rfl (b := false) hb1 rfl rfl rfl trivial ?_
      refine v_op hT hC rfl rfl rfl rfl trivial ?_
      refine Vc.nil ?_
      injection h with h
      subst h
      refine m_norm ?_
      apply w_conv hC []
      · repeat' first | exact CO.nil | apply CO.gone | apply CO.row rfl rfl | apply CO.box rfl rfl | decide
      · rfl
      · decide
      · rfl
  refine aw_ret ?_
  injection h with h
  subst h
  exact ends (Weak.refl _) rfl trivial
def impl_SeqPlus_res (r : Int) : AV := .sv (.int .i64 r)
def impl_SeqPlus_obs (r : Int) : Objs := []
theorem impl_SeqPlus_ac {p0 : Int} {p1 : Int} {r : Int} (h : impl_SeqPlus p0 p1 = some r) : AC Try.prog 128 [.sv (.int .i64 p0), .sv (.int .i64 p1)] [] (impl_SeqPlus_res r) (impl_SeqPlus_obs r) := by
  refine ac_of_body hT Try.func128 rfl fun C hC => ?_
  unfold impl_SeqPlus at h
  refine s_reg ?_
  refine v_op hT hC rfl rfl rfl rfl trivial ?_
  refine Vc.nil ?_
  refine s_in ?_
  refine live [0, 1] [] (s' := [_, _]) (o' := []) rfl rfl ?_
  obtain ⟨v1, h1, h⟩ := bnd_some h
  refine aw_to ([(12, .sv (.bool v1))], []) ?_ ?_
  · have h := h1
    refine aw_region ?_
    refine v_op hT hC rfl rfl rfl rfl trivial ?_
    obtain ⟨q2, hq, h⟩ := bnd_some h
    refine v_call hC [] rfl rfl rfl rfl Try.call144 (impl_isNumber_ac hq) rfl (by decide) trivial rfl (.inl rfl) rfl ?_
    iterate 2 refine v_op hT hC rfl rfl rfl rfl trivial ?_
    rcases sel_some h with ⟨hb1, h⟩ | ⟨hb1, h⟩
    · refine v_on hT hC rfl rfl rfl rfl (congrArg Bool.not hb1) rfl rfl rfl trivial ?_
      obtain ⟨q3, hq, h⟩ := bnd_some h
      refine v_call_on hC [] rfl rfl rfl rfl (congrArg Bool.not hb1) rfl rfl rfl Try.call144 (impl_isNumber_ac hq) rfl (by decide) trivial rfl (.inl rfl) rfl ?_
      refine v_on hT hC rfl rfl rfl rfl (congrArg Bool.not hb1) rfl rfl rfl trivial ?_
      refine v_pick hC rfl rfl rfl (b := false) (congrArg Bool.not hb1) rfl rfl rfl trivial ?_
      refine Vc.nil ?_
      injection h with h
      subst h
      refine m_norm ?_
      apply w_conv hC []
      · repeat' first | exact CO.nil | apply CO.gone | apply CO.row rfl rfl | apply CO.box rfl rfl | decide
      · rfl
      · decide
      · rfl
    · refine v_off hC rfl rfl rfl rfl (congrArg Bool.not hb1) rfl rfl ?_
      refine v_off hC rfl rfl rfl rfl (congrArg Bool.not hb1) rfl rfl ?_
      refine v_off hC rfl rfl rfl rfl (congrArg Bool.not hb1) rfl rfl ?_
      refine v_pick hC rfl rfl rfl (b := true) (congrArg Bool.not hb1) rfl rfl rfl trivial ?_
      refine Vc.nil ?_
      injection h with h
      subst h
      refine m_norm ?_
      apply w_conv hC []
      · repeat' first | exact CO.nil | apply CO.gone | apply CO.row rfl rfl | apply CO.box rfl rfl | decide
      · rfl
      · decide
      · rfl
  rcases sel_some h with ⟨hb2, h⟩ | ⟨hb2, h⟩
  · refine s_true rfl hb2 ?_
    refine s_reg ?_
    refine v_op hT hC rfl rfl rfl rfl trivial ?_
    refine Vc.nil ?_
    refine aw_ret ?_
    refine t_ret ?_
    injection h with h
    subst h
    exact ends (Weak.refl _) rfl trivial
  · refine s_false rfl hb2 ?_
    refine aw_skip ?_
    refine t_norm ?_
    refine s_reg ?_
    iterate 3 refine v_op hT hC rfl rfl rfl rfl trivial ?_
    obtain ⟨hq, h⟩ := req_some h
    refine v_op hT hC rfl rfl rfl rfl hq ?_
    refine v_op hT hC rfl rfl rfl rfl trivial ?_
    refine Vc.nil ?_
    refine aw_ret ?_
    injection h with h
    subst h
    exact ends (Weak.refl _) rfl trivial
def laws_eqPacket_res (r : Bool) : AV := .sv (.bool r)
def laws_eqPacket_obs (r : Bool) : Objs := []
theorem laws_eqPacket_ac {p0 : Packet} {p1 : Packet} {r : Bool} (h : laws_eqPacket p0 p1 = some r) : AC Try.prog 130 [.agg [.sv (.int .i64 p0.Seq), .sv (.bool p0.First), .sv (.bool p0.Last), .sv (.str p0.Bytes)], .agg [.sv (.int .i64 p1.Seq), .sv (.bool p1.First), .sv (.bool p1.Last), .sv (.str p1.Bytes)]] [] (laws_eqPacket_res r) (laws_eqPacket_obs r) := by
  refine ac_of_body hT Try.func130 rfl fun C hC => ?_
  unfold laws_eqPacket at h
  refine s_reg ?_
  iterate 3 refine v_op hT hC rfl rfl rfl rfl trivial ?_
  refine Vc.nil ?_
  refine s_in ?_
  refine s_reg ?_
  iterate 5 refine v_op hT hC rfl rfl rfl rfl trivial ?_
  refine Vc.nil ?_
  rcases sel_some h with ⟨hb1, h⟩ | ⟨hb1, h⟩
  · refine s_true rfl hb1 ?_
    refine s_reg ?_
    refine v_op hT hC rfl rfl rfl rfl trivial ?_
    refine Vc.nil ?_
    refine aw_ret ?_
    refine t_ret ?_
    injection h with h
    subst h
    exact ends (Weak.refl _) rfl trivial
  · refine s_false rfl hb1 ?_
    refine aw_skip ?_
    refine t_norm ?_
    refine s_in ?_
    refine s_reg ?_
    iterate 5 refine v_op hT hC rfl rfl rfl rfl trivial ?_
    refine Vc.nil ?_
    rcases sel_some h with ⟨hb2, h⟩ | ⟨hb2, h⟩
    · refine s_true rfl hb2 ?_
      refine s_reg ?_
      refine v_op hT hC rfl rfl rfl rfl trivial ?_
      refine Vc.nil ?_
      refine aw_ret ?_
      refine t_ret ?_
      injection h with h
      subst h
      exact ends (Weak.refl _) rfl trivial
    · refine s_false rfl hb2 ?_
      refine aw_skip ?_
      refine t_norm ?_
      refine s_in ?_
      refine s_reg ?_
      iterate 5 refine v_op hT hC rfl rfl rfl rfl trivial ?_
      refine Vc.nil ?_
      rcases sel_some h with ⟨hb3, h⟩ | ⟨hb3, h⟩
      · refine s_true rfl hb3 ?_
        refine s_reg ?_
        refine v_op hT hC rfl rfl rfl rfl trivial ?_
        refine Vc.nil ?_
        refine aw_ret ?_
        refine t_ret ?_
        injection h with h
        subst h
        exact ends (Weak.refl _) rfl trivial
      · refine s_false rfl hb3 ?_
        refine aw_skip ?_
        refine t_norm ?_
        refine s_in ?_
        refine s_reg ?_
        iterate 5 refine v_op hT hC rfl rfl rfl rfl trivial ?_
        refine Vc.nil ?_
        rcases sel_some h with ⟨hb4, h⟩ | ⟨hb4, h⟩
        · refine s_true rfl hb4 ?_
          refine s_reg ?_
          refine v_op hT hC rfl rfl rfl rfl trivial ?_
          refine Vc.nil ?_
          refine aw_ret ?_
          refine t_ret ?_
          injection h with h
          subst h
          exact ends (Weak.refl _) rfl trivial
        · refine s_false rfl hb4 ?_
          refine aw_skip ?_
          refine t_norm ?_
          refine s_reg ?_
          refine v_op hT hC rfl rfl rfl rfl trivial ?_
          refine Vc.nil ?_
          refine aw_ret ?_
          injection h with h
          subst h
          exact ends (Weak.refl _) rfl trivial
def laws_eqPacketS_res (r : Bool) : AV := .sv (.bool r)
def laws_eqPacketS_obs (r : Bool) : Objs := []
theorem laws_eqPacketS_ac {p0 : (List Packet)} {p1 : (List Packet)} {r : Bool} (h : laws_eqPacketS p0 p1 = some r) : AC Try.prog 43 [.sv (cPacket.sv p0), .sv (cPacket.sv p1)] [] (laws_eqPacketS_res r) (laws_eqPacketS_obs r) := by
  refine ac_of_body hT Try.func43 rfl fun C hC => ?_
  unfold laws_eqPacketS at h
  refine s_reg ?_
  refine v_op hT hC rfl rfl rfl rfl trivial ?_
  refine Vc.nil ?_
  refine s_in ?_
  refine s_reg ?_
  iterate 5 refine v_op hT hC rfl rfl rfl rfl trivial ?_
  refine Vc.nil ?_
  rcases sel_some h with ⟨hb1, h⟩ | ⟨hb1, h⟩
  · refine s_true rfl hb1 ?_
    refine s_reg ?_
    refine v_op hT hC rfl rfl rfl rfl trivial ?_
    refine Vc.nil ?_
    refine aw_ret ?_
    refine t_ret ?_
    injection h with h
    subst h
    exact ends (Weak.refl _) rfl trivial
  · refine s_false rfl hb1 ?_
    refine aw_skip ?_
    refine t_norm ?_
    refine s_in ?_
    refine s_reg ?_
    refine v_op hT hC rfl rfl rfl rfl trivial ?_
    refine Vc.nil ?_
    refine live [0, 1, 5] [] (s' := [_, _, _]) (o' := []) rfl rfl ?_
    obtain ⟨o8, hl, h⟩ := bnd_some h
    refine s_loopR (fun v3 => ([(5, .sv (.int .i64 v3))], [])) (fun v6 => ([(0, .any), (1, .any), (5, .any)], [])) (fun r => EndsA C T Try.f43.results.toList (laws_eqPacketS_res r) (laws_eqPacketS_obs r)) hl ?_ ?_ ?_ ?_
    · apply w_conv hC []
      · repeat' first | exact CO.nil | apply CO.gone | apply CO.row rfl rfl | apply CO.box rfl rfl | decide
      · rfl
      · decide
      · rfl
    · intro v3 s hs
      have h := hs
      unfold laws_eqPacketS_l2 at h
      refine s_in ?_
      refine s_reg ?_
      iterate 4 refine v_op hT hC rfl rfl rfl rfl trivial ?_
      refine Vc.nil ?_
      rcases sel_some h with ⟨hb6, h⟩ | ⟨hb6, h⟩
      · refine s_true rfl hb6 ?_
        refine aw_skip ?_
        refine t_norm ?_
        refine s_in ?_
        refine s_block ?_
        refine s_draw hm ?_
        iterate 2 refine v_op hT hC rfl rfl rfl rfl trivial ?_
        obtain ⟨hq, h⟩ := req_some h
        refine v_op hT hC rfl rfl rfl rfl hq ?_
        iterate 3 refine v_op hT hC rfl rfl rfl rfl trivial ?_
        obtain ⟨hq, h⟩ := req_some h
        refine v_op hT hC rfl rfl rfl rfl hq ?_
        refine v_op hT hC rfl rfl rfl rfl trivial ?_
        obtain ⟨q7, hq, h⟩ := bnd_some h
        refine v_call hC [] rfl rfl rfl rfl Try.call130 (laws_eqPacket_ac hq) rfl (by decide) trivial rfl (.inl rfl) rfl ?_
        refine v_op hT hC rfl rfl rfl rfl trivial ?_
        refine Vc.nil ⟨by kernel_rfl, ?_⟩
        rcases sel_some h with ⟨hb7, h⟩ | ⟨hb7, h⟩
        · refine s_true rfl hb7 ?_
          refine s_reg ?_
          refine v_op hT hC rfl rfl rfl rfl trivial ?_
          refine Vc.nil ?_
          refine aw_ret ?_
          refine b_ret ?_
          refine t_ret ?_
          injection h with h
          subst h
          refine r_ret ?_
          refine o_ret ?_
          exact ends (Weak.refl _) rfl trivial
        · refine s_false rfl hb7 ?_
          refine aw_skip ?_
          refine b_norm ?_
          refine t_norm ?_
          refine aw_region ?_
          iterate 3 refine v_op hT hC rfl rfl rfl rfl trivial ?_
          refine Vc.nil ?_
          injection h with h
          subst h
          refine r_go ?_
          apply w_conv hC []
          · repeat' first | exact CO.nil | apply CO.gone | apply CO.row rfl rfl | apply CO.box rfl rfl | decide
          · rfl
          · decide
          · rfl
      · refine s_false rfl hb6 ?_
        refine aw_exit ?_
        refine t_exit ?_
        injection h with h
        subst h
        refine r_exit ?_
        refine o_both ?_
        apply w_conv hC []
        · repeat' first | exact CO.nil | apply CO.gone | apply CO.row rfl rfl | apply CO.box rfl rfl | decide
        · rfl
        · decide
        · rfl
    · intro v6 e
      subst e
      refine t_norm ?_
      refine s_reg ?_
      refine v_op hT hC rfl rfl rfl rfl trivial ?_
      refine Vc.nil ?_
      refine aw_ret ?_
      injection h with h
      subst h
      exact ends (Weak.refl _) rfl trivial
    · intro r' σ' e hE
      subst e
      injection h with h
      subst h
      refine t_ret ?_
      exact hE
def laws_markText_res (r : ByteArray) : AV := .sv (.str r)
def laws_markText_obs (r : ByteArray) : Objs := []
theorem laws_markText_ac {p0 : Int} {r : ByteArray} (h : laws_markText p0 = some r) : AC Try.prog 131 [.sv (.int .i64 p0)] [] (laws_markText_res r) (laws_markText_obs r) := by
  refine ac_of_body hT Try.func131 rfl fun C hC => ?_
  unfold laws_markText at h
  refine s_reg ?_
  refine v_op hT hC rfl rfl rfl rfl trivial ?_
  refine Vc.nil ?_
  refine s_in ?_
  refine s_reg ?_
  iterate 2 refine v_op hT hC rfl rfl rfl rfl trivial ?_
  refine Vc.nil ?_
  rcases sel_some h with ⟨hb1, h⟩ | ⟨hb1, h⟩
  · refine s_true rfl hb1 ?_
    refine s_reg ?_
    refine v_op hT hC rfl rfl rfl rfl trivial ?_
    refine Vc.nil ?_
    refine aw_ret ?_
    refine t_ret ?_
    injection h with h
    subst h
    exact ends (Weak.refl _) rfl trivial
  · refine s_false rfl hb1 ?_
    refine aw_skip ?_
    refine t_norm ?_
    refine s_reg ?_
    refine v_op hT hC rfl rfl rfl rfl trivial ?_
    refine Vc.nil ?_
    refine s_in ?_
    refine live [0, 3] [] (s' := [_, _]) (o' := []) rfl rfl ?_
    obtain ⟨v4, hl, h⟩ := bnd_some h
    refine s_loop (fun v2 => ([(0, .sv (.int .i64 v2.1)), (3, .sv (.str v2.2))], [])) (fun v4 => ([(3, .sv (.str v4)), (0, .any)], [])) hl ?_ ?_ ?_
    · try dsimp only
      apply w_conv hC []
      · repeat' first | exact CO.nil | apply CO.gone | apply CO.row rfl rfl | apply CO.box rfl rfl | decide
      · rfl
      · decide
      · rfl
    · intro v2 s hs
      have h := hs
      unfold laws_markText_l2 at h
      refine s_in ?_
      refine s_reg ?_
      iterate 2 refine v_op hT hC rfl rfl rfl rfl trivial ?_
      refine Vc.nil ?_
      rcases sel_some h with ⟨hb4, h⟩ | ⟨hb4, h⟩
      · refine s_true rfl hb4 ?_
        refine aw_skip ?_
        refine t_norm ?_
        refine s_block ?_
        refine s_reg ?_
        refine v_op hT hC rfl rfl rfl rfl trivial ?_
        obtain ⟨hq, h⟩ := req_some h
        refine v_op hT hC rfl rfl rfl rfl hq ?_
        iterate 5 refine v_op hT hC rfl rfl rfl rfl trivial ?_
        obtain ⟨hq, h⟩ := req_some h
        refine v_op hT hC rfl rfl rfl rfl hq ?_
        refine v_op hT hC rfl rfl rfl rfl trivial ?_
        refine Vc.nil ?_
        refine aw_region ?_
        refine v_op hT hC rfl rfl rfl rfl trivial ?_
        obtain ⟨hq, h⟩ := req_some h
        refine v_op hT hC rfl rfl rfl rfl hq ?_
        refine v_op hT hC rfl rfl rfl rfl trivial ?_
        refine Vc.nil ?_
        refine b_norm ?_
        injection h with h
        subst h
        refine r_go ?_
        try dsimp only
        apply w_conv hC []
        · repeat' first | exact CO.nil | apply CO.gone | apply CO.row rfl rfl | apply CO.box rfl rfl | decide
        · rfl
        · decide
        · rfl
      · refine s_false rfl hb4 ?_
        refine aw_exit ?_
        refine t_exit ?_
        injection h with h
        subst h
        refine r_exit ?_
        refine o_out ?_
        apply w_conv hC []
        · repeat' first | exact CO.nil | apply CO.gone | apply CO.row rfl rfl | apply CO.box rfl rfl | decide
        · rfl
        · decide
        · rfl
    refine t_norm ?_
    refine s_reg ?_
    refine v_op hT hC rfl rfl rfl rfl trivial ?_
    obtain ⟨hq, h⟩ := req_some h
    refine v_op hT hC rfl rfl rfl rfl hq ?_
    refine v_op hT hC rfl rfl rfl rfl trivial ?_
    refine Vc.nil ?_
    refine aw_ret ?_
    injection h with h
    subst h
    exact ends (Weak.refl _) rfl trivial
def laws_markPacketS_res (r : (Int × (List Packet))) : AV := .sv (.int .i64 r.1)
def laws_markPacketS_obs (r : (Int × (List Packet))) : Objs := [(0, .row cPacket r.2)]
theorem laws_markPacketS_ac {p0 : (List Packet)} {p1 : Int} {r : (Int × (List Packet))} (h : laws_markPacketS p0 p1 = some r) : AC Try.prog 44 [.own 0, .sv (.int .i64 p1)] [(0, .row cPacket p0)] (laws_markPacketS_res r) (laws_markPacketS_obs r) := by
  refine ac_of_body hT Try.func44 rfl fun C hC => ?_
  unfold laws_markPacketS at h
  refine s_reg ?_
  refine v_op hT hC rfl rfl rfl rfl trivial ?_
  refine Vc.nil ?_
  refine s_in ?_
  refine s_reg ?_
  refine v_op hT hC rfl rfl rfl rfl trivial ?_
  refine Vc.nil ?_
  refine live [0, 1, 5] [0] (s' := [_, _, _]) (o' := [_]) rfl rfl ?_
  obtain ⟨v14, hl, h⟩ := bnd_some h
  refine s_loop (fun v7 => ([(1, .sv (.int .i64 v7.1)), (5, .sv (.int .i64 v7.2.1))], [(0, some (.row cPacket v7.2.2))])) (fun v14 => ([(1, .sv (.int .i64 v14.1)), (0, .any), (5, .any)], [(0, some (.row cPacket v14.2))])) hl ?_ ?_ ?_
  · try dsimp only
    apply w_conv hC []
    · repeat' first | exact CO.nil | apply CO.gone | apply CO.row rfl rfl | apply CO.box rfl rfl | decide
    · rfl
    · decide
    · rfl
  · intro v7 s hs
    have h := hs
    unfold laws_markPacketS_l2 at h
    refine s_in ?_
    refine s_reg ?_
    iterate 4 refine v_op hT hC rfl rfl rfl rfl trivial ?_
    refine Vc.nil ?_
    rcases sel_some h with ⟨hb3, h⟩ | ⟨hb3, h⟩
    · refine s_true rfl hb3 ?_
      refine aw_skip ?_
      refine t_norm ?_
      refine s_in ?_
      refine s_block ?_
      refine s_reg ?_
      iterate 3 refine v_op hT hC rfl rfl rfl rfl trivial ?_
      obtain ⟨hq, h⟩ := req_some h
      refine v_op hT hC rfl rfl rfl rfl hq ?_
      refine v_op hT hC rfl rfl rfl rfl trivial ?_
      obtain ⟨hq, h⟩ := req_some h
      obtain ⟨s15, hs, h⟩ := bnd_some h
      injection hs with hs
      refine v_op hT hC rfl rfl rfl rfl hq ?_
      rw [hs]
      refine Vc.nil ?_
      refine s_reg ?_
      iterate 3 refine v_op hT hC rfl rfl rfl rfl trivial ?_
      refine Vc.nil ?_
      refine s_reg ?_
      iterate 3 refine v_op hT hC rfl rfl rfl rfl trivial ?_
      obtain ⟨hq, h⟩ := req_some h
      refine v_op hT hC rfl rfl rfl rfl hq ?_
      refine v_op hT hC rfl rfl rfl rfl trivial ?_
      obtain ⟨hq, h⟩ := req_some h
      refine v_op hT hC rfl rfl rfl rfl hq ?_
      refine v_op hT hC rfl rfl rfl rfl trivial ?_
      obtain ⟨hq, h⟩ := req_some h
      obtain ⟨s16, hs, h⟩ := bnd_some h
      injection hs with hs
      refine v_op hT hC rfl rfl rfl rfl hq ?_
      rw [hs]
      refine Vc.nil ?_
      refine s_reg ?_
      iterate 3 refine v_op hT hC rfl rfl rfl rfl trivial ?_
      refine Vc.nil ?_
      refine s_reg ?_
      iterate 3 refine v_op hT hC rfl rfl rfl rfl trivial ?_
      obtain ⟨hq, h⟩ := req_some h
      refine v_op hT hC rfl rfl rfl rfl hq ?_
      refine v_op hT hC rfl rfl rfl rfl trivial ?_
      obtain ⟨hq, h⟩ := req_some h
      refine v_op hT hC rfl rfl rfl rfl hq ?_
      refine v_op hT hC rfl rfl rfl rfl trivial ?_
      obtain ⟨hq, h⟩ := req_some h
      obtain ⟨s17, hs, h⟩ := bnd_some h
      injection hs with hs
      refine v_op hT hC rfl rfl rfl rfl hq ?_
      rw [hs]
      refine Vc.nil ?_
      refine s_reg ?_
      iterate 3 refine v_op hT hC rfl rfl rfl rfl trivial ?_
      refine Vc.nil ?_
      refine s_reg ?_
      iterate 3 refine v_op hT hC rfl rfl rfl rfl trivial ?_
      obtain ⟨q18, hq, h⟩ := bnd_some h
      refine v_call hC [] rfl rfl rfl rfl Try.call131 (laws_markText_ac hq) rfl (by decide) trivial rfl (.inl rfl) rfl ?_
      obtain ⟨hq, h⟩ := req_some h
      refine v_op hT hC rfl rfl rfl rfl hq ?_
      refine v_op hT hC rfl rfl rfl rfl trivial ?_
      obtain ⟨hq, h⟩ := req_some h
      obtain ⟨s19, hs, h⟩ := bnd_some h
      injection hs with hs
      refine v_op hT hC rfl rfl rfl rfl hq ?_
      rw [hs]
      refine Vc.nil ?_
      refine aw_region ?_
      iterate 3 refine v_op hT hC rfl rfl rfl rfl trivial ?_
      refine Vc.nil ?_
      refine b_norm ?_
      refine t_norm ?_
      refine aw_region ?_
      iterate 3 refine v_op hT hC rfl rfl rfl rfl trivial ?_
      refine Vc.nil ?_
      injection h with h
      subst h
      refine r_go ?_
      try dsimp only
      apply w_conv hC []
      · repeat' first | exact CO.nil | apply CO.gone | apply CO.row rfl rfl | apply CO.box rfl rfl | decide
      · rfl
      · decide
      · rfl
    · refine s_false rfl hb3 ?_
      refine aw_exit ?_
      refine t_exit ?_
      injection h with h
      subst h
      refine r_exit ?_
      refine o_out ?_
      try dsimp only
      apply w_conv hC []
      · repeat' first | exact CO.nil | apply CO.gone | apply CO.row rfl rfl | apply CO.box rfl rfl | decide
      · rfl
      · decide
      · rfl
  refine t_norm ?_
  refine s_reg ?_
  iterate 2 refine v_op hT hC rfl rfl rfl rfl trivial ?_
  refine Vc.nil ?_
  refine aw_ret ?_
  injection h with h
  subst h
  exact ends (Weak.refl _) rfl ⟨rfl, trivial⟩
def laws_szQueue_res (r : Int) : AV := .sv (.int .i64 r)
def laws_szQueue_obs (r : Int) : Objs := []
theorem laws_szQueue_ac {p0 : Queue} {p1 : Int} {r : Int} (h : laws_szQueue p0 p1 = some r) : AC Try.prog 53 [.agg [.sv (.bool p0.Begun), .sv (.int .i64 p0.Next), .sv (.int .i64 p0.Age), .sv (cPacket.sv p0.Held), .sv (.int .i64 p0.Late), .sv (.int .i64 p0.Far), .sv (.int .i64 p0.Twice), .sv (.int .i64 p0.Over), .sv (.int .i64 p0.Lost)], .sv (.int .i64 p1)] [] (laws_szQueue_res r) (laws_szQueue_obs r) := by
  refine ac_of_body hT Try.func53 rfl fun C hC => ?_
  unfold laws_szQueue at h
  refine s_reg ?_
  iterate 2 refine v_op hT hC rfl rfl rfl rfl trivial ?_
  refine Vc.nil ?_
  refine s_reg ?_
  iterate 3 refine v_op hT hC rfl rfl rfl rfl trivial ?_
  obtain ⟨q1, hq, h⟩ := bnd_some h
  refine v_call hC [] rfl rfl rfl rfl Try.call38 (laws_szPacketS_ac hq) rfl (by decide) trivial rfl (.inl rfl) rfl ?_
  refine v_op hT hC rfl rfl rfl rfl trivial ?_
  refine Vc.nil ?_
  refine s_in ?_
  refine s_reg ?_
  iterate 2 refine v_op hT hC rfl rfl rfl rfl trivial ?_
  refine Vc.nil ?_
  rcases sel_some h with ⟨hb1, h⟩ | ⟨hb1, h⟩
  · refine s_true rfl hb1 ?_
    refine s_reg ?_
    refine v_op hT hC rfl rfl rfl rfl trivial ?_
    refine Vc.nil ?_
    refine aw_ret ?_
    refine t_ret ?_
    injection h with h
    subst h
    exact ends (Weak.refl _) rfl trivial
  · refine s_false rfl hb1 ?_
    refine aw_skip ?_
    refine t_norm ?_
    refine s_reg ?_
    iterate 2 refine v_op hT hC rfl rfl rfl rfl trivial ?_
    refine Vc.nil ?_
    refine aw_ret ?_
    injection h with h
    subst h
    exact ends (Weak.refl _) rfl trivial
def laws_toQueue_res (r : Queue) : AV := .agg [.sv (.bool r.Begun), .sv (.int .i64 r.Next), .sv (.int .i64 r.Age), .own 16, .sv (.int .i64 r.Late), .sv (.int .i64 r.Far), .sv (.int .i64 r.Twice), .sv (.int .i64 r.Over), .sv (.int .i64 r.Lost)]
def laws_toQueue_obs (r : Queue) : Objs := [(16, .row cPacket r.Held)]
theorem laws_toQueue_ac {p0 : Queue} {r : Queue} (h : laws_toQueue p0 = some r) : AC Try.prog 55 [.agg [.sv (.bool p0.Begun), .sv (.int .i64 p0.Next), .sv (.int .i64 p0.Age), .sv (cPacket.sv p0.Held), .sv (.int .i64 p0.Late), .sv (.int .i64 p0.Far), .sv (.int .i64 p0.Twice), .sv (.int .i64 p0.Over), .sv (.int .i64 p0.Lost)]] [] (laws_toQueue_res r) (laws_toQueue_obs r) := by
  refine ac_of_body hT Try.func55 rfl fun C hC => ?_
  unfold laws_toQueue at h
  refine s_reg ?_
  iterate 2 refine v_op hT hC rfl rfl rfl rfl trivial ?_
  refine Vc.nil ?_
  refine s_reg ?_
  refine v_op hT hC rfl rfl rfl rfl trivial ?_
  refine Vc.nil ?_
  refine s_reg ?_
  iterate 4 refine v_op hT hC rfl rfl rfl rfl trivial ?_
  refine Vc.nil ?_
  refine s_reg ?_
  iterate 4 refine v_op hT hC rfl rfl rfl rfl trivial ?_
  refine Vc.nil ?_
  refine s_reg ?_
  iterate 4 refine v_op hT hC rfl rfl rfl rfl trivial ?_
  refine Vc.nil ?_
  refine s_reg ?_
  iterate 2 refine v_op hT hC rfl rfl rfl rfl trivial ?_
  obtain ⟨q1, hq, h⟩ := bnd_some h
  refine v_call hC [(16, 240)] rfl rfl rfl rfl Try.call40 (laws_toPacketS_ac hq) rfl (by decide) trivial rfl (.inl rfl) rfl ?_
  iterate 2 refine v_op hT hC rfl rfl rfl rfl trivial ?_
  refine Vc.nil ?_
  refine s_reg ?_
  iterate 4 refine v_op hT hC rfl rfl rfl rfl trivial ?_
  refine Vc.nil ?_
  refine s_reg ?_
  iterate 4 refine v_op hT hC rfl rfl rfl rfl trivial ?_
  refine Vc.nil ?_
  refine s_reg ?_
  iterate 4 refine v_op hT hC rfl rfl rfl rfl trivial ?_
  refine Vc.nil ?_
  refine s_reg ?_
  iterate 4 refine v_op hT hC rfl rfl rfl rfl trivial ?_
  refine Vc.nil ?_
  refine s_reg ?_
  iterate 4 refine v_op hT hC rfl rfl rfl rfl trivial ?_
  refine Vc.nil ?_
  refine s_reg ?_
  iterate 2 refine v_op hT hC rfl rfl rfl rfl trivial ?_
  refine Vc.nil ?_
  refine aw_ret ?_
  injection h with h
  subst h
  refine ends (τ := ⟨[(2, .ptr 2000000 0)], [(16, some (.row cPacket q1)), (2000000, some (.box [.sv (.bool p0.Begun), .sv (.int .i64 p0.Next), .sv (.int .i64 p0.Age), .own 16, .sv (.int .i64 p0.Late), .sv (.int .i64 p0.Far), .sv (.int .i64 p0.Twice), .sv (.int .i64 p0.Over), .sv (.int .i64 p0.Lost)]))]⟩) ?_ rfl ⟨rfl, trivial⟩
  apply w_conv hC [(16, 240), (2000000, 32)]
  · repeat' first | exact CO.nil | apply CO.gone | apply CO.row rfl rfl | apply CO.box rfl rfl | decide
  · rfl
  · decide
  · rfl
def spec_l23Copy_res (r : Queue) : AV := .agg [.sv (.bool r.Begun), .sv (.int .i64 r.Next), .sv (.int .i64 r.Age), .own 16, .sv (.int .i64 r.Late), .sv (.int .i64 r.Far), .sv (.int .i64 r.Twice), .sv (.int .i64 r.Over), .sv (.int .i64 r.Lost)]
def spec_l23Copy_obs (r : Queue) : Objs := [(16, .row cPacket r.Held)]
theorem spec_l23Copy_ac {p0 : Queue} {r : Queue} (h : spec_l23Copy p0 = some r) : AC Try.prog 136 [.agg [.sv (.bool p0.Begun), .sv (.int .i64 p0.Next), .sv (.int .i64 p0.Age), .sv (cPacket.sv p0.Held), .sv (.int .i64 p0.Late), .sv (.int .i64 p0.Far), .sv (.int .i64 p0.Twice), .sv (.int .i64 p0.Over), .sv (.int .i64 p0.Lost)]] [] (spec_l23Copy_res r) (spec_l23Copy_obs r) := by
  refine ac_of_body hT Try.func136 rfl fun C hC => ?_
  unfold spec_l23Copy at h
  refine s_reg ?_
  iterate 2 refine v_op hT hC rfl rfl rfl rfl trivial ?_
  refine Vc.nil ?_
  refine s_reg ?_
  iterate 3 refine v_op hT hC rfl rfl rfl rfl trivial ?_
  obtain ⟨hq, h⟩ := req_some h
  refine v_op hT hC rfl rfl rfl rfl ⟨fun _ _ => rfl, by rw [cPacket_id]; exact hq⟩ ?_
  rw [cPacket_id]
  iterate 2 refine v_op hT hC rfl rfl rfl rfl trivial ?_
  refine Vc.nil ?_
  refine s_reg ?_
  iterate 2 refine v_op hT hC rfl rfl rfl rfl trivial ?_
  refine Vc.nil ?_
  refine aw_ret ?_
  injection h with h
  subst h
  refine ends (τ := ⟨[(2, .ptr 2000000 0)], [(16, some (.row cPacket (([] : List Packet) ++ p0.Held))), (2000000, some (.box [.sv (.bool p0.Begun), .sv (.int .i64 p0.Next), .sv (.int .i64 p0.Age), .own 16, .sv (.int .i64 p0.Late), .sv (.int .i64 p0.Far), .sv (.int .i64 p0.Twice), .sv (.int .i64 p0.Over), .sv (.int .i64 p0.Lost)]))]⟩) ?_ rfl ⟨rfl, trivial⟩
  apply w_conv hC [(16, 96), (2000000, 32)]
  · repeat' first | exact CO.nil | apply CO.gone | apply CO.row rfl rfl | apply CO.box rfl rfl | decide
  · rfl
  · decide
  · rfl
def spec_SeqGap_res (r : Int) : AV := .sv (.int .i64 r)
def spec_SeqGap_obs (r : Int) : Objs := []
theorem spec_SeqGap_ac {p0 : Int} {p1 : Int} {r : Int} (h : spec_SeqGap p0 p1 = some r) : AC Try.prog 146 [.sv (.int .i64 p0), .sv (.int .i64 p1)] [] (spec_SeqGap_res r) (spec_SeqGap_obs r) := by
  refine ac_of_body hT Try.func146 rfl fun C hC => ?_
  unfold spec_SeqGap at h
  refine s_reg ?_
  refine v_op hT hC rfl rfl rfl rfl trivial ?_
  refine Vc.nil ?_
  refine s_in ?_
  refine live [0, 1] [] (s' := [_, _]) (o' := []) rfl rfl ?_
  obtain ⟨v1, h1, h⟩ := bnd_some h
  refine aw_to ([(13, .sv (.bool v1))], []) ?_ ?_
  · have h := h1
    refine aw_region ?_
    refine v_op hT hC rfl rfl rfl rfl trivial ?_
    obtain ⟨q2, hq, h⟩ := bnd_some h
    refine v_call hC [] rfl rfl rfl rfl Try.call106 (spec_l01In_ac hq) rfl (by decide) trivial rfl (.inl rfl) rfl ?_
    iterate 2 refine v_op hT hC rfl rfl rfl rfl trivial ?_
    rcases sel_some h with ⟨hb1, h⟩ | ⟨hb1, h⟩
    · refine v_on hT hC rfl rfl rfl rfl (congrArg Bool.not hb1) rfl rfl rfl trivial ?_
      obtain ⟨q3, hq, h⟩ := bnd_some h
      refine v_call_on hC [] rfl rfl rfl rfl (congrArg Bool.not hb1) rfl rfl rfl Try.call106 (spec_l01In_ac hq) rfl (by decide) trivial rfl (.inl rfl) rfl ?_
      refine v_on hT hC rfl rfl rfl rfl (congrArg Bool.not hb1) rfl rfl rfl trivial ?_
      refine v_pick hC rfl rfl rfl (b := false) (congrArg Bool.not hb1) rfl rfl rfl trivial ?_
      refine Vc.nil ?_
      injection h with h
      subst h
      refine m_norm ?_
      apply w_conv hC []
      · repeat' first | exact CO.nil | apply CO.gone | apply CO.row rfl rfl | apply CO.box rfl rfl | decide
      · rfl
      · decide
      · rfl
    · refine v_off hC rfl rfl rfl rfl (congrArg Bool.not hb1) rfl rfl ?_
      refine v_off hC rfl rfl rfl rfl (congrArg Bool.not hb1) rfl rfl ?_
      refine v_off hC rfl rfl rfl rfl (congrArg Bool.not hb1) rfl rfl ?_
      refine v_pick hC rfl rfl rfl (b := true) (congrArg Bool.not hb1) rfl rfl rfl trivial ?_
      refine Vc.nil ?_
      injection h with h
      subst h
      refine m_norm ?_
      apply w_conv hC []
      · repeat' first | exact CO.nil | apply CO.gone | apply CO.row rfl rfl | apply CO.box rfl rfl | decide
      · rfl
      · decide
      · rfl
  rcases sel_some h with ⟨hb2, h⟩ | ⟨hb2, h⟩
  · refine s_true rfl hb2 ?_
    refine s_reg ?_
    refine v_op hT hC rfl rfl rfl rfl trivial ?_
    refine Vc.nil ?_
    refine aw_ret ?_
    refine t_ret ?_
    injection h with h
    subst h
    exact ends (Weak.refl _) rfl trivial
  · refine s_false rfl hb2 ?_
    refine aw_skip ?_
    refine t_norm ?_
    refine s_reg ?_
    iterate 4 refine v_op hT hC rfl rfl rfl rfl trivial ?_
    refine Vc.nil ?_
    refine live [5] [] (s' := [_]) (o' := []) rfl rfl ?_
    obtain ⟨v4, h1, h⟩ := bnd_some h
    refine aw_to ([(5, .sv (.int .i64 v4))], []) ?_ ?_
    · have h := h1
      refine s_reg ?_
      iterate 2 refine v_op hT hC rfl rfl rfl rfl trivial ?_
      refine Vc.nil ?_
      rcases sel_some h with ⟨hb3, h⟩ | ⟨hb3, h⟩
      · refine s_true rfl hb3 ?_
        refine aw_region ?_
        iterate 3 refine v_op hT hC rfl rfl rfl rfl trivial ?_
        refine Vc.nil ?_
        injection h with h
        subst h
        refine m_norm ?_
        apply w_conv hC []
        · repeat' first | exact CO.nil | apply CO.gone | apply CO.row rfl rfl | apply CO.box rfl rfl | decide
        · rfl
        · decide
        · rfl
      · refine s_false rfl hb3 ?_
        refine aw_skip ?_
        injection h with h
        subst h
        refine m_norm ?_
        apply w_conv hC []
        · repeat' first | exact CO.nil | apply CO.gone | apply CO.row rfl rfl | apply CO.box rfl rfl | decide
        · rfl
        · decide
        · rfl
    refine live [5] [] (s' := [_]) (o' := []) rfl rfl ?_
    obtain ⟨v5, h1, h⟩ := bnd_some h
    refine aw_to ([(5, .sv (.int .i64 v5))], []) ?_ ?_
    · have h := h1
      refine s_reg ?_
      iterate 2 refine v_op hT hC rfl rfl rfl rfl trivial ?_
      refine Vc.nil ?_
      rcases sel_some h with ⟨hb4, h⟩ | ⟨hb4, h⟩
      · refine s_true rfl hb4 ?_
        refine aw_region ?_
        iterate 3 refine v_op hT hC rfl rfl rfl rfl trivial ?_
        refine Vc.nil ?_
        injection h with h
        subst h
        refine m_norm ?_
        apply w_conv hC []
        · repeat' first | exact CO.nil | apply CO.gone | apply CO.row rfl rfl | apply CO.box rfl rfl | decide
        · rfl
        · decide
        · rfl
      · refine s_false rfl hb4 ?_
        refine aw_skip ?_
        injection h with h
        subst h
        refine m_norm ?_
        apply w_conv hC []
        · repeat' first | exact CO.nil | apply CO.gone | apply CO.row rfl rfl | apply CO.box rfl rfl | decide
        · rfl
        · decide
        · rfl
    refine s_reg ?_
    iterate 2 refine v_op hT hC rfl rfl rfl rfl trivial ?_
    refine Vc.nil ?_
    refine aw_ret ?_
    injection h with h
    subst h
    exact ends (Weak.refl _) rfl trivial
def spec_l23Count_res (r : Bool) : AV := .sv (.bool r)
def spec_l23Count_obs (r : Bool) : Objs := []
theorem spec_l23Count_ac {p0 : Int} {r : Bool} (h : spec_l23Count p0 = some r) : AC Try.prog 214 [.sv (.int .i64 p0)] [] (spec_l23Count_res r) (spec_l23Count_obs r) := by
  refine ac_of_body hT Try.func214 rfl fun C hC => ?_
  unfold spec_l23Count at h
  refine s_reg ?_
  refine v_op hT hC rfl rfl rfl rfl trivial ?_
  refine Vc.nil ?_
  refine s_reg ?_
  refine v_op hT hC rfl rfl rfl rfl trivial ?_
  obtain ⟨q1, hq, h⟩ := bnd_some h
  refine v_call hC [] rfl rfl rfl rfl Try.call106 (spec_l01In_ac hq) rfl (by decide) trivial rfl (.inl rfl) rfl ?_
  refine v_op hT hC rfl rfl rfl rfl trivial ?_
  refine Vc.nil ?_
  refine aw_ret ?_
  injection h with h
  subst h
  exact ends (Weak.refl _) rfl trivial
def spec_QueueOk_res (r : Bool) : AV := .sv (.bool r)
def spec_QueueOk_obs (r : Bool) : Objs := []
theorem spec_QueueOk_ac {p0 : Queue} {r : Bool} (h : spec_QueueOk p0 = some r) : AC Try.prog 137 [.agg [.sv (.bool p0.Begun), .sv (.int .i64 p0.Next), .sv (.int .i64 p0.Age), .sv (cPacket.sv p0.Held), .sv (.int .i64 p0.Late), .sv (.int .i64 p0.Far), .sv (.int .i64 p0.Twice), .sv (.int .i64 p0.Over), .sv (.int .i64 p0.Lost)]] [] (spec_QueueOk_res r) (spec_QueueOk_obs r) := by
  refine ac_of_body hT Try.func137 rfl fun C hC => ?_
  unfold spec_QueueOk at h
  refine s_reg ?_
  iterate 2 refine v_op hT hC rfl rfl rfl rfl trivial ?_
  refine Vc.nil ?_
  refine s_in ?_
  refine s_reg ?_
  iterate 3 refine v_op hT hC rfl rfl rfl rfl trivial ?_
  refine Vc.nil ?_
  rcases sel_some h with ⟨hb1, h⟩ | ⟨hb1, h⟩
  · refine s_true rfl hb1 ?_
    refine live [1, 2] [16] (s' := [_, _]) (o' := [_]) rfl rfl ?_
    obtain ⟨v1, h1, h⟩ := bnd_some h
    refine aw_to ([(2, .sv (.bool v1)), (1, .any)], [(16, none)]) ?_ ?_
    · have h := h1
      refine aw_region ?_
      iterate 4 refine v_op hT hC rfl rfl rfl rfl trivial ?_
      rcases sel_some h with ⟨hb2, h⟩ | ⟨hb2, h⟩
      · iterate 3 refine v_on hT hC rfl rfl rfl rfl hb2 rfl rfl rfl trivial ?_
        refine v_pick hC rfl rfl rfl (b := true) hb2 rfl rfl rfl trivial ?_
        refine v_op hT hC rfl rfl rfl rfl trivial ?_
        rcases sel_some h with ⟨hb3, h⟩ | ⟨hb3, h⟩
        · iterate 4 refine v_on hT hC rfl rfl rfl rfl hb3 rfl rfl rfl trivial ?_
          refine v_pick hC rfl rfl rfl (b := true) hb3 rfl rfl rfl trivial ?_
          refine v_op hT hC rfl rfl rfl rfl trivial ?_
          rcases sel_some h with ⟨hb4, h⟩ | ⟨hb4, h⟩
          · iterate 3 refine v_on hT hC rfl rfl rfl rfl hb4 rfl rfl rfl trivial ?_
            refine v_pick hC rfl rfl rfl (b := true) hb4 rfl rfl rfl trivial ?_
            refine v_op hT hC rfl rfl rfl rfl trivial ?_
            rcases sel_some h with ⟨hb5, h⟩ | ⟨hb5, h⟩
            · iterate 3 refine v_on hT hC rfl rfl rfl rfl hb5 rfl rfl rfl trivial ?_
              refine v_pick hC rfl rfl rfl (b := true) hb5 rfl rfl rfl trivial ?_
              refine v_op hT hC rfl rfl rfl rfl trivial ?_
              rcases sel_some h with ⟨hb6, h⟩ | ⟨hb6, h⟩
              · iterate 3 refine v_on hT hC rfl rfl rfl rfl hb6 rfl rfl rfl trivial ?_
                refine v_pick hC rfl rfl rfl (b := true) hb6 rfl rfl rfl trivial ?_
                refine v_op hT hC rfl rfl rfl rfl trivial ?_
                rcases sel_some h with ⟨hb7, h⟩ | ⟨hb7, h⟩
                · iterate 3 refine v_on hT hC rfl rfl rfl rfl hb7 rfl rfl rfl trivial ?_
                  refine v_pick hC rfl rfl rfl (b := true) hb7 rfl rfl rfl trivial ?_
                  refine v_op hT hC rfl rfl rfl rfl trivial ?_
                  rcases sel_some h with ⟨hb8, h⟩ | ⟨hb8, h⟩
                  · iterate 3 refine v_on hT hC rfl rfl rfl rfl hb8 rfl rfl rfl trivial ?_
                    refine v_pick hC rfl rfl rfl (b := true) hb8 rfl rfl rfl trivial ?_
                    refine v_op hT hC rfl rfl rfl rfl trivial ?_
                    refine Vc.nil ?_
                    injection h with h
                    subst h
                    refine m_norm ?_
                    apply w_conv hC []
                    · repeat' first | exact CO.nil | apply CO.gone | apply CO.row rfl rfl | apply CO.box rfl rfl | decide
                    · rfl
                    · decide
                    · rfl
                  · refine v_off hC rfl rfl rfl rfl hb8 rfl rfl ?_
                    refine v_off hC rfl rfl rfl rfl hb8 rfl rfl ?_
                    refine v_off hC rfl rfl rfl rfl hb8 rfl rfl ?_
                    refine v_pick hC rfl rfl rfl (b := false) hb8 rfl rfl rfl trivial ?_
                    refine v_op hT hC rfl rfl rfl rfl trivial ?_
                    refine Vc.nil ?_
                    injection h with h
                    subst h
                    refine m_norm ?_
                    apply w_conv hC []
                    · repeat' first | exact CO.nil | apply CO.gone | apply CO.row rfl rfl | apply CO.box rfl rfl | decide
                    · rfl
                    · decide
                    · rfl
                · refine v_off hC rfl rfl rfl rfl hb7 rfl rfl ?_
                  refine v_off hC rfl rfl rfl rfl hb7 rfl rfl ?_
                  refine v_off hC rfl rfl rfl rfl hb7 rfl rfl ?_
                  refine v_pick hC rfl rfl rfl (b := false) hb7 rfl rfl rfl trivial ?_
                  refine v_op hT hC rfl rfl rfl rfl trivial ?_
                  refine v_off hC rfl rfl rfl rfl rfl rfl rfl ?_
                  refine v_off hC rfl rfl rfl rfl rfl rfl rfl ?_
                  refine v_off hC rfl rfl rfl rfl rfl rfl rfl ?_
                  iterate 2 refine v_op hT hC rfl rfl rfl rfl trivial ?_
                  refine Vc.nil ?_
                  injection h with h
                  subst h
                  refine m_norm ?_
                  apply w_conv hC []
                  · repeat' first | exact CO.nil | apply CO.gone | apply CO.row rfl rfl | apply CO.box rfl rfl | decide
                  · rfl
                  · decide
                  · rfl
              · refine v_off hC rfl rfl rfl rfl hb6 rfl rfl ?_
                refine v_off hC rfl rfl rfl rfl hb6 rfl rfl ?_
                refine v_off hC rfl rfl rfl rfl hb6 rfl rfl ?_
                refine v_pick hC rfl rfl rfl (b := false) hb6 rfl rfl rfl trivial ?_
                refine v_op hT hC rfl rfl rfl rfl trivial ?_
                refine v_off hC rfl rfl rfl rfl rfl rfl rfl ?_
                refine v_off hC rfl rfl rfl rfl rfl rfl rfl ?_
                refine v_off hC rfl rfl rfl rfl rfl rfl rfl ?_
                iterate 2 refine v_op hT hC rfl rfl rfl rfl trivial ?_
                refine v_off hC rfl rfl rfl rfl rfl rfl rfl ?_
                refine v_off hC rfl rfl rfl rfl rfl rfl rfl ?_
                refine v_off hC rfl rfl rfl rfl rfl rfl rfl ?_
                iterate 2 refine v_op hT hC rfl rfl rfl rfl trivial ?_
                refine Vc.nil ?_
                injection h with h
                subst h
                refine m_norm ?_
                apply w_conv hC []
                · repeat' first | exact CO.nil | apply CO.gone | apply CO.row rfl rfl | apply CO.box rfl rfl | decide
                · rfl
                · decide
                · rfl
            · refine v_off hC rfl rfl rfl rfl hb5 rfl rfl ?_
              refine v_off hC rfl rfl rfl rfl hb5 rfl rfl ?_
              refine v_off hC rfl rfl rfl rfl hb5 rfl rfl ?_
              refine v_pick hC rfl rfl rfl (b := false) hb5 rfl rfl rfl trivial ?_
              refine v_op hT hC rfl rfl rfl rfl trivial ?_
              refine v_off hC rfl rfl rfl rfl rfl rfl rfl ?_
              refine v_off hC rfl rfl rfl rfl rfl rfl rfl ?_
              refine v_off hC rfl rfl rfl rfl rfl rfl rfl ?_
              iterate 2 refine v_op hT hC rfl rfl rfl rfl trivial ?_
              refine v_off hC rfl rfl rfl rfl rfl rfl rfl ?_
              refine v_off hC rfl rfl rfl rfl rfl rfl rfl ?_
              refine v_off hC rfl rfl rfl rfl rfl rfl rfl ?_
              iterate 2 refine v_op hT hC rfl rfl rfl rfl trivial ?_
              refine v_off hC rfl rfl rfl rfl rfl rfl rfl ?_
              refine v_off hC rfl rfl rfl rfl rfl rfl rfl ?_
              refine v_off hC rfl rfl rfl rfl rfl rfl rfl ?_
              iterate 2 refine v_op hT hC rfl rfl rfl rfl trivial ?_
              refine Vc.nil ?_
              injection h with h
              subst h
              refine m_norm ?_
              apply w_conv hC []
              · repeat' first | exact CO.nil | apply CO.gone | apply CO.row rfl rfl | apply CO.box rfl rfl | decide
              · rfl
              · decide
              · rfl
          · refine v_off hC rfl rfl rfl rfl hb4 rfl rfl ?_
            refine v_off hC rfl rfl rfl rfl hb4 rfl rfl ?_
            refine v_off hC rfl rfl rfl rfl hb4 rfl rfl ?_
            refine v_pick hC rfl rfl rfl (b := false) hb4 rfl rfl rfl trivial ?_
            refine v_op hT hC rfl rfl rfl rfl trivial ?_
            refine v_off hC rfl rfl rfl rfl rfl rfl rfl ?_
            refine v_off hC rfl rfl rfl rfl rfl rfl rfl ?_
            refine v_off hC rfl rfl rfl rfl rfl rfl rfl ?_
            iterate 2 refine v_op hT hC rfl rfl rfl rfl trivial ?_
            refine v_off hC rfl rfl rfl rfl rfl rfl rfl ?_
            refine v_off hC rfl rfl rfl rfl rfl rfl rfl ?_
            refine v_off hC rfl rfl rfl rfl rfl rfl rfl ?_
            iterate 2 refine v_op hT hC rfl rfl rfl rfl trivial ?_
            refine v_off hC rfl rfl rfl rfl rfl rfl rfl ?_
            refine v_off hC rfl rfl rfl rfl rfl rfl rfl ?_
            refine v_off hC rfl rfl rfl rfl rfl rfl rfl ?_
            iterate 2 refine v_op hT hC rfl rfl rfl rfl trivial ?_
            refine v_off hC rfl rfl rfl rfl rfl rfl rfl ?_
            refine v_off hC rfl rfl rfl rfl rfl rfl rfl ?_
            refine v_off hC rfl rfl rfl rfl rfl rfl rfl ?_
            iterate 2 refine v_op hT hC rfl rfl rfl rfl trivial ?_
            refine Vc.nil ?_
            injection h with h
            subst h
            refine m_norm ?_
            apply w_conv hC []
            · repeat' first | exact CO.nil | apply CO.gone | apply CO.row rfl rfl | apply CO.box rfl rfl | decide
            · rfl
            · decide
            · rfl
        · refine v_off hC rfl rfl rfl rfl hb3 rfl rfl ?_
          refine v_off hC rfl rfl rfl rfl hb3 rfl rfl ?_
          refine v_off hC rfl rfl rfl rfl hb3 rfl rfl ?_
          refine v_off hC rfl rfl rfl rfl hb3 rfl rfl ?_
          refine v_pick hC rfl rfl rfl (b := false) hb3 rfl rfl rfl trivial ?_
          refine v_op hT hC rfl rfl rfl rfl trivial ?_
          refine v_off hC rfl rfl rfl rfl rfl rfl rfl ?_
          refine v_off hC rfl rfl rfl rfl rfl rfl rfl ?_
          refine v_off hC rfl rfl rfl rfl rfl rfl rfl ?_
          iterate 2 refine v_op hT hC rfl rfl rfl rfl trivial ?_
          refine v_off hC rfl rfl rfl rfl rfl rfl rfl ?_
          refine v_off hC rfl rfl rfl rfl rfl rfl rfl ?_
          refine v_off hC rfl rfl rfl rfl rfl rfl rfl ?_
          iterate 2 refine v_op hT hC rfl rfl rfl rfl trivial ?_
          refine v_off hC rfl rfl rfl rfl rfl rfl rfl ?_
          refine v_off hC rfl rfl rfl rfl rfl rfl rfl ?_
          refine v_off hC rfl rfl rfl rfl rfl rfl rfl ?_
          iterate 2 refine v_op hT hC rfl rfl rfl rfl trivial ?_
          refine v_off hC rfl rfl rfl rfl rfl rfl rfl ?_
          refine v_off hC rfl rfl rfl rfl rfl rfl rfl ?_
          refine v_off hC rfl rfl rfl rfl rfl rfl rfl ?_
          iterate 2 refine v_op hT hC rfl rfl rfl rfl trivial ?_
          refine v_off hC rfl rfl rfl rfl rfl rfl rfl ?_
          refine v_off hC rfl rfl rfl rfl rfl rfl rfl ?_
          refine v_off hC rfl rfl rfl rfl rfl rfl rfl ?_
          iterate 2 refine v_op hT hC rfl rfl rfl rfl trivial ?_
          refine Vc.nil ?_
          injection h with h
          subst h
          refine m_norm ?_
          apply w_conv hC []
          · repeat' first | exact CO.nil | apply CO.gone | apply CO.row rfl rfl | apply CO.box rfl rfl | decide
          · rfl
          · decide
          · rfl
      · refine v_off hC rfl rfl rfl rfl hb2 rfl rfl ?_
        refine v_off hC rfl rfl rfl rfl hb2 rfl rfl ?_
        refine v_off hC rfl rfl rfl rfl hb2 rfl rfl ?_
        refine v_pick hC rfl rfl rfl (b := false) hb2 rfl rfl rfl trivial ?_
        refine v_op hT hC rfl rfl rfl rfl trivial ?_
        refine v_off hC rfl rfl rfl rfl rfl rfl rfl ?_
        refine v_off hC rfl rfl rfl rfl rfl rfl rfl ?_
        refine v_off hC rfl rfl rfl rfl rfl rfl rfl ?_
        refine v_off hC rfl rfl rfl rfl rfl rfl rfl ?_
        iterate 2 refine v_op hT hC rfl rfl rfl rfl trivial ?_
        refine v_off hC rfl rfl rfl rfl rfl rfl rfl ?_
        refine v_off hC rfl rfl rfl rfl rfl rfl rfl ?_
        refine v_off hC rfl rfl rfl rfl rfl rfl rfl ?_
        iterate 2 refine v_op hT hC rfl rfl rfl rfl trivial ?_
        refine v_off hC rfl rfl rfl rfl rfl rfl rfl ?_
        refine v_off hC rfl rfl rfl rfl rfl rfl rfl ?_
        refine v_off hC rfl rfl rfl rfl rfl rfl rfl ?_
        iterate 2 refine v_op hT hC rfl rfl rfl rfl trivial ?_
        refine v_off hC rfl rfl rfl rfl rfl rfl rfl ?_
        refine v_off hC rfl rfl rfl rfl rfl rfl rfl ?_
        refine v_off hC rfl rfl rfl rfl rfl rfl rfl ?_
        iterate 2 refine v_op hT hC rfl rfl rfl rfl trivial ?_
        refine v_off hC rfl rfl rfl rfl rfl rfl rfl ?_
        refine v_off hC rfl rfl rfl rfl rfl rfl rfl ?_
        refine v_off hC rfl rfl rfl rfl rfl rfl rfl ?_
        iterate 2 refine v_op hT hC rfl rfl rfl rfl trivial ?_
        refine v_off hC rfl rfl rfl rfl rfl rfl rfl ?_
        refine v_off hC rfl rfl rfl rfl rfl rfl rfl ?_
        refine v_off hC rfl rfl rfl rfl rfl rfl rfl ?_
        iterate 2 refine v_op hT hC rfl rfl rfl rfl trivial ?_
        refine Vc.nil ?_
        injection h with h
        subst h
        refine m_norm ?_
        apply w_conv hC []
        · repeat' first | exact CO.nil | apply CO.gone | apply CO.row rfl rfl | apply CO.box rfl rfl | decide
        · rfl
        · decide
        · rfl
    refine aw_ret ?_
    refine t_ret ?_
    injection h with h
    subst h
    exact ends (Weak.refl _) rfl trivial
  · refine s_false rfl hb1 ?_
    refine aw_skip ?_
    refine t_norm ?_
    refine s_in ?_
    refine live [1] [16] (s' := [_]) (o' := [_]) rfl rfl ?_
    obtain ⟨v2, h1, h⟩ := bnd_some h
    refine aw_to ([(63, .sv (.bool v2))], []) ?_ ?_
    · have h := h1
      refine aw_region ?_
      iterate 2 refine v_op hT hC rfl rfl rfl rfl trivial ?_
      obtain ⟨q3, hq, h⟩ := bnd_some h
      refine v_call hC [] rfl rfl rfl rfl Try.call106 (spec_l01In_ac hq) rfl (by decide) trivial rfl (.inl rfl) rfl ?_
      iterate 2 refine v_op hT hC rfl rfl rfl rfl trivial ?_
      rcases sel_some h with ⟨hb9, h⟩ | ⟨hb9, h⟩
      · iterate 2 refine v_on hT hC rfl rfl rfl rfl (congrArg Bool.not hb9) rfl rfl rfl trivial ?_
        obtain ⟨q4, hq, h⟩ := bnd_some h
        refine v_call_on hC [] rfl rfl rfl rfl (congrArg Bool.not hb9) rfl rfl rfl Try.call106 (spec_l01In_ac hq) rfl (by decide) trivial rfl (.inl rfl) rfl ?_
        refine v_on hT hC rfl rfl rfl rfl (congrArg Bool.not hb9) rfl rfl rfl trivial ?_
        refine v_pick hC rfl rfl rfl (b := false) (congrArg Bool.not hb9) rfl rfl rfl trivial ?_
        refine v_op hT hC rfl rfl rfl rfl trivial ?_
        rcases sel_some h with ⟨hb10, h⟩ | ⟨hb10, h⟩
        · iterate 4 refine v_on hT hC rfl rfl rfl rfl (congrArg Bool.not hb10) rfl rfl rfl trivial ?_
          refine v_pick hC rfl rfl rfl (b := false) (congrArg Bool.not hb10) rfl rfl rfl trivial ?_
          refine Vc.nil ?_
          injection h with h
          subst h
          refine m_norm ?_
          apply w_conv hC []
          · repeat' first | exact CO.nil | apply CO.gone | apply CO.row rfl rfl | apply CO.box rfl rfl | decide
          · rfl
          · decide
          · rfl
        · refine v_off hC rfl rfl rfl rfl (congrArg Bool.not hb10) rfl rfl ?_
          refine v_off hC rfl rfl rfl rfl (congrArg Bool.not hb10) rfl rfl ?_
          refine v_off hC rfl rfl rfl rfl (congrArg Bool.not hb10) rfl rfl ?_
          refine v_off hC rfl rfl rfl rfl (congrArg Bool.not hb10) rfl rfl ?_
          refine v_pick hC rfl rfl rfl (b := true) (congrArg Bool.not hb10) rfl rfl rfl trivial ?_
          refine Vc.nil ?_
          injection h with h
          subst h
          refine m_norm ?_
          apply w_conv hC []
          · repeat' first | exact CO.nil | apply CO.gone | apply CO.row rfl rfl | apply CO.box rfl rfl | decide
          · rfl
          · decide
          · rfl
      · refine v_off hC rfl rfl rfl rfl (congrArg Bool.not hb9) rfl rfl ?_
        refine v_off hC rfl rfl rfl rfl (congrArg Bool.not hb9) rfl rfl ?_
        refine v_off hC rfl rfl rfl rfl (congrArg Bool.not hb9) rfl rfl ?_
        refine v_off hC rfl rfl rfl rfl (congrArg Bool.not hb9) rfl rfl ?_
        refine v_pick hC rfl rfl rfl (b := true) (congrArg Bool.not hb9) rfl rfl rfl trivial ?_
        refine v_op hT hC rfl rfl rfl rfl trivial ?_
        refine v_off hC rfl rfl rfl rfl rfl rfl rfl ?_
        refine v_off hC rfl rfl rfl rfl rfl rfl rfl ?_
        refine v_off hC rfl rfl rfl rfl rfl rfl rfl ?_
        refine v_off hC rfl rfl rfl rfl rfl rfl rfl ?_
        refine v_op hT hC rfl rfl rfl rfl trivial ?_
        refine Vc.nil ?_
        injection h with h
        subst h
        refine m_norm ?_
        apply w_conv hC []
        · repeat' first | exact CO.nil | apply CO.gone | apply CO.row rfl rfl | apply CO.box rfl rfl | decide
        · rfl
        · decide
        · rfl
    rcases sel_some h with ⟨hb11, h⟩ | ⟨hb11, h⟩
    · refine s_true rfl hb11 ?_
      refine s_reg ?_
      refine v_op hT hC rfl rfl rfl rfl trivial ?_
      refine Vc.nil ?_
      refine aw_ret ?_
      refine t_ret ?_
      injection h with h
      subst h
      exact ends (Weak.refl _) rfl trivial
    · refine s_false rfl hb11 ?_
      refine aw_skip ?_
      refine t_norm ?_
      refine s_reg ?_
      refine v_op hT hC rfl rfl rfl rfl trivial ?_
      refine Vc.nil ?_
      refine s_in ?_
      refine s_reg ?_
      refine v_op hT hC rfl rfl rfl rfl trivial ?_
      refine Vc.nil ?_
      refine live [1, 3, 4] [16] (s' := [_, _, _]) (o' := [_]) rfl rfl ?_
      obtain ⟨o18, hl, h⟩ := bnd_some h
      refine s_loopR (fun v9 => ([(3, .sv (.int .i64 v9.1)), (4, .sv (.int .i64 v9.2))], [])) (fun v14 => ([(3, .any), (4, .any)], [])) (fun r => EndsA C T Try.f137.results.toList (spec_QueueOk_res r) (spec_QueueOk_obs r)) hl ?_ ?_ ?_ ?_
      · try dsimp only
        apply w_conv hC []
        · repeat' first | exact CO.nil | apply CO.gone | apply CO.row rfl rfl | apply CO.box rfl rfl | decide
        · rfl
        · decide
        · rfl
      · intro v9 s hs
        have h := hs
        unfold spec_QueueOk_l2 at h
        refine s_in ?_
        refine s_reg ?_
        iterate 5 refine v_op hT hC rfl rfl rfl rfl trivial ?_
        refine Vc.nil ?_
        rcases sel_some h with ⟨hb20, h⟩ | ⟨hb20, h⟩
        · refine s_true rfl hb20 ?_
          refine aw_skip ?_
          refine t_norm ?_
          refine s_in ?_
          refine s_block ?_
          refine s_draw hm ?_
          iterate 5 refine v_op hT hC rfl rfl rfl rfl trivial ?_
          obtain ⟨hq, h⟩ := req_some h
          refine v_op hT hC rfl rfl rfl rfl hq ?_
          iterate 2 refine v_op hT hC rfl rfl rfl rfl trivial ?_
          obtain ⟨q15, hq, h⟩ := bnd_some h
          refine v_call hC [] rfl rfl rfl rfl Try.call146 (spec_SeqGap_ac hq) rfl (by decide) trivial rfl (.inl rfl) rfl ?_
          refine v_op hT hC rfl rfl rfl rfl trivial ?_
          refine Vc.nil ⟨by kernel_rfl, ?_⟩
          refine s_in ?_
          refine live [1, 3, 4, 5] [16] (s' := [_, _, _, _]) (o' := [_]) rfl rfl ?_
          obtain ⟨v16, h1, h⟩ := bnd_some h
          refine aw_to ([(95, .sv (.bool v16)), (3, .any)], []) ?_ ?_
          · have h := h1
            refine aw_region ?_
            iterate 3 refine v_op hT hC rfl rfl rfl rfl trivial ?_
            obtain ⟨hq, h⟩ := req_some h
            refine v_op hT hC rfl rfl rfl rfl hq ?_
            refine v_op hT hC rfl rfl rfl rfl trivial ?_
            obtain ⟨q17, hq, h⟩ := bnd_some h
            refine v_call hC [] rfl rfl rfl rfl Try.call124 (spec_PacketOk_ac hq) rfl (by decide) trivial rfl (.inl rfl) rfl ?_
            iterate 2 refine v_op hT hC rfl rfl rfl rfl trivial ?_
            rcases sel_some h with ⟨hb21, h⟩ | ⟨hb21, h⟩
            · iterate 3 refine v_on hT hC rfl rfl rfl rfl (congrArg Bool.not hb21) rfl rfl rfl trivial ?_
              refine v_pick hC rfl rfl rfl (b := false) (congrArg Bool.not hb21) rfl rfl rfl trivial ?_
              refine v_op hT hC rfl rfl rfl rfl trivial ?_
              rcases sel_some h with ⟨hb22, h⟩ | ⟨hb22, h⟩
              · refine v_off hC rfl rfl rfl rfl hb22 rfl rfl ?_
                refine v_off hC rfl rfl rfl rfl hb22 rfl rfl ?_
                refine v_pick hC rfl rfl rfl (b := true) hb22 rfl rfl rfl trivial ?_
                refine Vc.nil ?_
                injection h with h
                subst h
                refine m_norm ?_
                apply w_conv hC []
                · repeat' first | exact CO.nil | apply CO.gone | apply CO.row rfl rfl | apply CO.box rfl rfl | decide
                · rfl
                · decide
                · rfl
              · iterate 2 refine v_on hT hC rfl rfl rfl rfl hb22 rfl rfl rfl trivial ?_
                refine v_pick hC rfl rfl rfl (b := false) hb22 rfl rfl rfl trivial ?_
                refine Vc.nil ?_
                injection h with h
                subst h
                refine m_norm ?_
                apply w_conv hC []
                · repeat' first | exact CO.nil | apply CO.gone | apply CO.row rfl rfl | apply CO.box rfl rfl | decide
                · rfl
                · decide
                · rfl
            · refine v_off hC rfl rfl rfl rfl (congrArg Bool.not hb21) rfl rfl ?_
              refine v_off hC rfl rfl rfl rfl (congrArg Bool.not hb21) rfl rfl ?_
              refine v_off hC rfl rfl rfl rfl (congrArg Bool.not hb21) rfl rfl ?_
              refine v_pick hC rfl rfl rfl (b := true) (congrArg Bool.not hb21) rfl rfl rfl trivial ?_
              refine v_op hT hC rfl rfl rfl rfl trivial ?_
              refine v_off hC rfl rfl rfl rfl rfl rfl rfl ?_
              refine v_off hC rfl rfl rfl rfl rfl rfl rfl ?_
              refine v_op hT hC rfl rfl rfl rfl trivial ?_
              refine Vc.nil ?_
              injection h with h
              subst h
              refine m_norm ?_
              apply w_conv hC []
              · repeat' first | exact CO.nil | apply CO.gone | apply CO.row rfl rfl | apply CO.box rfl rfl | decide
              · rfl
              · decide
              · rfl
          rcases sel_some h with ⟨hb23, h⟩ | ⟨hb23, h⟩
          · refine s_true rfl hb23 ?_
            refine s_reg ?_
            refine v_op hT hC rfl rfl rfl rfl trivial ?_
            refine Vc.nil ?_
            refine aw_ret ?_
            refine t_ret ?_
            refine b_ret ?_
            refine t_ret ?_
            injection h with h
            subst h
            refine r_ret ?_
            refine o_ret ?_
            exact ends (Weak.refl _) rfl trivial
          · refine s_false rfl hb23 ?_
            refine aw_skip ?_
            refine t_norm ?_
            refine aw_region ?_
            iterate 2 refine v_op hT hC rfl rfl rfl rfl trivial ?_
            refine Vc.nil ?_
            refine b_norm ?_
            refine t_norm ?_
            refine aw_region ?_
            iterate 3 refine v_op hT hC rfl rfl rfl rfl trivial ?_
            refine Vc.nil ?_
            injection h with h
            subst h
            refine r_go ?_
            try dsimp only
            apply w_conv hC []
            · repeat' first | exact CO.nil | apply CO.gone | apply CO.row rfl rfl | apply CO.box rfl rfl | decide
            · rfl
            · decide
            · rfl
        · refine s_false rfl hb20 ?_
          refine aw_exit ?_
          refine t_exit ?_
          injection h with h
          subst h
          refine r_exit ?_
          refine o_both ?_
          apply w_conv hC []
          · repeat' first | exact CO.nil | apply CO.gone | apply CO.row rfl rfl | apply CO.box rfl rfl | decide
          · rfl
          · decide
          · rfl
      · intro v14 e
        subst e
        refine t_norm ?_
        refine live [1] [16] (s' := [_]) (o' := [_]) rfl rfl ?_
        obtain ⟨v19, h1, h⟩ := bnd_some h
        refine aw_to ([(2, .sv (.bool v19)), (1, .any)], [(16, none)]) ?_ ?_
        · have h := h1
          refine aw_region ?_
          iterate 2 refine v_op hT hC rfl rfl rfl rfl trivial ?_
          obtain ⟨q20, hq, h⟩ := bnd_some h
          refine v_call hC [] rfl rfl rfl rfl Try.call214 (spec_l23Count_ac hq) rfl (by decide) trivial rfl (.inl rfl) rfl ?_
          refine v_op hT hC rfl rfl rfl rfl trivial ?_
          rcases sel_some h with ⟨hb24, h⟩ | ⟨hb24, h⟩
          · iterate 2 refine v_on hT hC rfl rfl rfl rfl hb24 rfl rfl rfl trivial ?_
            obtain ⟨q21, hq, h⟩ := bnd_some h
            refine v_call_on hC [] rfl rfl rfl rfl hb24 rfl rfl rfl Try.call214 (spec_l23Count_ac hq) rfl (by decide) trivial rfl (.inl rfl) rfl ?_
            refine v_pick hC rfl rfl rfl (b := true) hb24 rfl rfl rfl trivial ?_
            refine v_op hT hC rfl rfl rfl rfl trivial ?_
            rcases sel_some h with ⟨hb25, h⟩ | ⟨hb25, h⟩
            · iterate 2 refine v_on hT hC rfl rfl rfl rfl hb25 rfl rfl rfl trivial ?_
              obtain ⟨q22, hq, h⟩ := bnd_some h
              refine v_call_on hC [] rfl rfl rfl rfl hb25 rfl rfl rfl Try.call214 (spec_l23Count_ac hq) rfl (by decide) trivial rfl (.inl rfl) rfl ?_
              refine v_pick hC rfl rfl rfl (b := true) hb25 rfl rfl rfl trivial ?_
              refine v_op hT hC rfl rfl rfl rfl trivial ?_
              rcases sel_some h with ⟨hb26, h⟩ | ⟨hb26, h⟩
              · iterate 2 refine v_on hT hC rfl rfl rfl rfl hb26 rfl rfl rfl trivial ?_
                obtain ⟨q23, hq, h⟩ := bnd_some h
                refine v_call_on hC [] rfl rfl rfl rfl hb26 rfl rfl rfl Try.call214 (spec_l23Count_ac hq) rfl (by decide) trivial rfl (.inl rfl) rfl ?_
                refine v_pick hC rfl rfl rfl (b := true) hb26 rfl rfl rfl trivial ?_
                refine v_op hT hC rfl rfl rfl rfl trivial ?_
                rcases sel_some h with ⟨hb27, h⟩ | ⟨hb27, h⟩
                · iterate 2 refine v_on hT hC rfl rfl rfl rfl hb27 rfl rfl rfl trivial ?_
                  obtain ⟨q24, hq, h⟩ := bnd_some h
                  refine v_call_on hC [] rfl rfl rfl rfl hb27 rfl rfl rfl Try.call214 (spec_l23Count_ac hq) rfl (by decide) trivial rfl (.inl rfl) rfl ?_
                  refine v_pick hC rfl rfl rfl (b := true) hb27 rfl rfl rfl trivial ?_
                  refine v_op hT hC rfl rfl rfl rfl trivial ?_
                  refine Vc.nil ?_
                  injection h with h
                  subst h
                  refine m_norm ?_
                  apply w_conv hC []
                  · repeat' first | exact CO.nil | apply CO.gone | apply CO.row rfl rfl | apply CO.box rfl rfl | decide
                  · rfl
                  · decide
                  · rfl
                · refine v_off hC rfl rfl rfl rfl hb27 rfl rfl ?_
                  refine v_off hC rfl rfl rfl rfl hb27 rfl rfl ?_
                  refine v_off hC rfl rfl rfl rfl hb27 rfl rfl ?_
                  refine v_pick hC rfl rfl rfl (b := false) hb27 rfl rfl rfl trivial ?_
                  refine v_op hT hC rfl rfl rfl rfl trivial ?_
                  refine Vc.nil ?_
                  injection h with h
                  subst h
                  refine m_norm ?_
                  apply w_conv hC []
                  · repeat' first | exact CO.nil | apply CO.gone | apply CO.row rfl rfl | apply CO.box rfl rfl | decide
                  · rfl
                  · decide
                  · rfl
              · refine v_off hC rfl rfl rfl rfl hb26 rfl rfl ?_
                refine v_off hC rfl rfl rfl rfl hb26 rfl rfl ?_
                refine v_off hC rfl rfl rfl rfl hb26 rfl rfl ?_
                refine v_pick hC rfl rfl rfl (b := false) hb26 rfl rfl rfl trivial ?_
                refine v_op hT hC rfl rfl rfl rfl trivial ?_
                refine v_off hC rfl rfl rfl rfl rfl rfl rfl ?_
                refine v_off hC rfl rfl rfl rfl rfl rfl rfl ?_
                refine v_off hC rfl rfl rfl rfl rfl rfl rfl ?_
                iterate 2 refine v_op hT hC rfl rfl rfl rfl trivial ?_
                refine Vc.nil ?_
                injection h with h
                subst h
                refine m_norm ?_
                apply w_conv hC []
                · repeat' first | exact CO.nil | apply CO.gone | apply CO.row rfl rfl | apply CO.box rfl rfl | decide
                · rfl
                · decide
                · rfl
            · refine v_off hC rfl rfl rfl rfl hb25 rfl rfl ?_
              refine v_off hC rfl rfl rfl rfl hb25 rfl rfl ?_
              refine v_off hC rfl rfl rfl rfl hb25 rfl rfl ?_
              refine v_pick hC rfl rfl rfl (b := false) hb25 rfl rfl rfl trivial ?_
              refine v_op hT hC rfl rfl rfl rfl trivial ?_
              refine v_off hC rfl rfl rfl rfl rfl rfl rfl ?_
              refine v_off hC rfl rfl rfl rfl rfl rfl rfl ?_
              refine v_off hC rfl rfl rfl rfl rfl rfl rfl ?_
              iterate 2 refine v_op hT hC rfl rfl rfl rfl trivial ?_
              refine v_off hC rfl rfl rfl rfl rfl rfl rfl ?_
              refine v_off hC rfl rfl rfl rfl rfl rfl rfl ?_
              refine v_off hC rfl rfl rfl rfl rfl rfl rfl ?_
              iterate 2 refine v_op hT hC rfl rfl rfl rfl trivial ?_
              refine Vc.nil ?_
              injection h with h
              subst h
              refine m_norm ?_
              apply w_conv hC []
              · repeat' first | exact CO.nil | apply CO.gone | apply CO.row rfl rfl | apply CO.box rfl rfl | decide
              · rfl
              · decide
              · rfl
          · refine v_off hC rfl rfl rfl rfl hb24 rfl rfl ?_
            refine v_off hC rfl rfl rfl rfl hb24 rfl rfl ?_
            refine v_off hC rfl rfl rfl rfl hb24 rfl rfl ?_
            refine v_pick hC rfl rfl rfl (b := false) hb24 rfl rfl rfl trivial ?_
            refine v_op hT hC rfl rfl rfl rfl trivial ?_
            refine v_off hC rfl rfl rfl rfl rfl rfl rfl ?_
            refine v_off hC rfl rfl rfl rfl rfl rfl rfl ?_
            refine v_off hC rfl rfl rfl rfl rfl rfl rfl ?_
            iterate 2 refine v_op hT hC rfl rfl rfl rfl trivial ?_
            refine v_off hC rfl rfl rfl rfl rfl rfl rfl ?_
            refine v_off hC rfl rfl rfl rfl rfl rfl rfl ?_
            refine v_off hC rfl rfl rfl rfl rfl rfl rfl ?_
            iterate 2 refine v_op hT hC rfl rfl rfl rfl trivial ?_
            refine v_off hC rfl rfl rfl rfl rfl rfl rfl ?_
            refine v_off hC rfl rfl rfl rfl rfl rfl rfl ?_
            refine v_off hC rfl rfl rfl rfl rfl rfl rfl ?_
            iterate 2 refine v_op hT hC rfl rfl rfl rfl trivial ?_
            refine Vc.nil ?_
            injection h with h
            subst h
            refine m_norm ?_
            apply w_conv hC []
            · repeat' first | exact CO.nil | apply CO.gone | apply CO.row rfl rfl | apply CO.box rfl rfl | decide
            · rfl
            · decide
            · rfl
        refine aw_ret ?_
        injection h with h
        subst h
        exact ends (Weak.refl _) rfl trivial
      · intro r' σ' e hE
        subst e
        injection h with h
        subst h
        refine t_ret ?_
        exact hE
def spec_l23More_res (r : Int) : AV := .sv (.int .i64 r)
def spec_l23More_obs (r : Int) : Objs := []
theorem spec_l23More_ac {p0 : Int} {r : Int} (h : spec_l23More p0 = some r) : AC Try.prog 139 [.sv (.int .i64 p0)] [] (spec_l23More_res r) (spec_l23More_obs r) := by
  refine ac_of_body hT Try.func139 rfl fun C hC => ?_
  unfold spec_l23More at h
  refine s_reg ?_
  refine v_op hT hC rfl rfl rfl rfl trivial ?_
  refine Vc.nil ?_
  refine s_reg ?_
  iterate 2 refine v_op hT hC rfl rfl rfl rfl trivial ?_
  obtain ⟨q1, hq, h⟩ := bnd_some h
  refine v_call hC [] rfl rfl rfl rfl Try.call190 (spec_Brought_ac hq) rfl (by decide) trivial rfl (.inl rfl) rfl ?_
  refine v_op hT hC rfl rfl rfl rfl trivial ?_
  refine Vc.nil ?_
  refine aw_ret ?_
  injection h with h
  subst h
  exact ends (Weak.refl _) rfl trivial
def impl_copyQueue_res (r : Queue) : AV := .agg [.sv (.bool r.Begun), .sv (.int .i64 r.Next), .sv (.int .i64 r.Age), .own 16, .sv (.int .i64 r.Late), .sv (.int .i64 r.Far), .sv (.int .i64 r.Twice), .sv (.int .i64 r.Over), .sv (.int .i64 r.Lost)]
def impl_copyQueue_obs (r : Queue) : Objs := [(16, .row cPacket r.Held)]
theorem impl_copyQueue_ac {p0 : Queue} {r : Queue} (h : impl_copyQueue p0 = some r) : AC Try.prog 140 [.agg [.sv (.bool p0.Begun), .sv (.int .i64 p0.Next), .sv (.int .i64 p0.Age), .sv (cPacket.sv p0.Held), .sv (.int .i64 p0.Late), .sv (.int .i64 p0.Far), .sv (.int .i64 p0.Twice), .sv (.int .i64 p0.Over), .sv (.int .i64 p0.Lost)]] [] (impl_copyQueue_res r) (impl_copyQueue_obs r) := by
  refine ac_of_body hT Try.func140 rfl fun C hC => ?_
  unfold impl_copyQueue at h
  refine s_reg ?_
  iterate 2 refine v_op hT hC rfl rfl rfl rfl trivial ?_
  refine Vc.nil ?_
  refine s_reg ?_
  iterate 3 refine v_op hT hC rfl rfl rfl rfl trivial ?_
  obtain ⟨hq, h⟩ := req_some h
  refine v_op hT hC rfl rfl rfl rfl ⟨fun _ _ => rfl, by rw [cPacket_id]; exact hq⟩ ?_
  rw [cPacket_id]
  iterate 2 refine v_op hT hC rfl rfl rfl rfl trivial ?_
  refine Vc.nil ?_
  refine s_reg ?_
  iterate 2 refine v_op hT hC rfl rfl rfl rfl trivial ?_
  refine Vc.nil ?_
  refine aw_ret ?_
  injection h with h
  subst h
  refine ends (τ := ⟨[(2, .ptr 2000000 0)], [(16, some (.row cPacket (([] : List Packet) ++ p0.Held))), (2000000, some (.box [.sv (.bool p0.Begun), .sv (.int .i64 p0.Next), .sv (.int .i64 p0.Age), .own 16, .sv (.int .i64 p0.Late), .sv (.int .i64 p0.Far), .sv (.int .i64 p0.Twice), .sv (.int .i64 p0.Over), .sv (.int .i64 p0.Lost)]))]⟩) ?_ rfl ⟨rfl, trivial⟩
  apply w_conv hC [(16, 96), (2000000, 32)]
  · repeat' first | exact CO.nil | apply CO.gone | apply CO.row rfl rfl | apply CO.box rfl rfl | decide
  · rfl
  · decide
  · rfl
def impl_SeqGap_res (r : Int) : AV := .sv (.int .i64 r)
def impl_SeqGap_obs (r : Int) : Objs := []
theorem impl_SeqGap_ac {p0 : Int} {p1 : Int} {r : Int} (h : impl_SeqGap p0 p1 = some r) : AC Try.prog 145 [.sv (.int .i64 p0), .sv (.int .i64 p1)] [] (impl_SeqGap_res r) (impl_SeqGap_obs r) := by
  refine ac_of_body hT Try.func145 rfl fun C hC => ?_
  unfold impl_SeqGap at h
  refine s_reg ?_
  refine v_op hT hC rfl rfl rfl rfl trivial ?_
  refine Vc.nil ?_
  refine s_in ?_
  refine live [0, 1] [] (s' := [_, _]) (o' := []) rfl rfl ?_
  obtain ⟨v1, h1, h⟩ := bnd_some h
  refine aw_to ([(13, .sv (.bool v1))], []) ?_ ?_
  · have h := h1
    refine aw_region ?_
    refine v_op hT hC rfl rfl rfl rfl trivial ?_
    obtain ⟨q2, hq, h⟩ := bnd_some h
    refine v_call hC [] rfl rfl rfl rfl Try.call144 (impl_isNumber_ac hq) rfl (by decide) trivial rfl (.inl rfl) rfl ?_
    iterate 2 refine v_op hT hC rfl rfl rfl rfl trivial ?_
    rcases sel_some h with ⟨hb1, h⟩ | ⟨hb1, h⟩
    · refine v_on hT hC rfl rfl rfl rfl (congrArg Bool.not hb1) rfl rfl rfl trivial ?_
      obtain ⟨q3, hq, h⟩ := bnd_some h
      refine v_call_on hC [] rfl rfl rfl rfl (congrArg Bool.not hb1) rfl rfl rfl Try.call144 (impl_isNumber_ac hq) rfl (by decide) trivial rfl (.inl rfl) rfl ?_
      refine v_on hT hC rfl rfl rfl rfl (congrArg Bool.not hb1) rfl rfl rfl trivial ?_
      refine v_pick hC rfl rfl rfl (b := false) (congrArg Bool.not hb1) rfl rfl rfl trivial ?_
      refine Vc.nil ?_
      injection h with h
      subst h
      refine m_norm ?_
      apply w_conv hC []
      · repeat' first | exact CO.nil | apply CO.gone | apply CO.row rfl rfl | apply CO.box rfl rfl | decide
      · rfl
      · decide
      · rfl
    · refine v_off hC rfl rfl rfl rfl (congrArg Bool.not hb1) rfl rfl ?_
      refine v_off hC rfl rfl rfl rfl (congrArg Bool.not hb1) rfl rfl ?_
      refine v_off hC rfl rfl rfl rfl (congrArg Bool.not hb1) rfl rfl ?_
      refine v_pick hC rfl rfl rfl (b := true) (congrArg Bool.not hb1) rfl rfl rfl trivial ?_
      refine Vc.nil ?_
      injection h with h
      subst h
      refine m_norm ?_
      apply w_conv hC []
      · repeat' first | exact CO.nil | apply CO.gone | apply CO.row rfl rfl | apply CO.box rfl rfl | decide
      · rfl
      · decide
      · rfl
  rcases sel_some h with ⟨hb2, h⟩ | ⟨hb2, h⟩
  · refine s_true rfl hb2 ?_
    refine s_reg ?_
    refine v_op hT hC rfl rfl rfl rfl trivial ?_
    refine Vc.nil ?_
    refine aw_ret ?_
    refine t_ret ?_
    injection h with h
    subst h
    exact ends (Weak.refl _) rfl trivial
  · refine s_false rfl hb2 ?_
    refine aw_skip ?_
    refine t_norm ?_
    refine s_reg ?_
    iterate 4 refine v_op hT hC rfl rfl rfl rfl trivial ?_
    obtain ⟨hq, h⟩ := req_some h
    refine v_op hT hC rfl rfl rfl rfl hq ?_
    refine v_op hT hC rfl rfl rfl rfl trivial ?_
    refine Vc.nil ?_
    refine live [5] [] (s' := [_]) (o' := []) rfl rfl ?_
    obtain ⟨v4, h1, h⟩ := bnd_some h
    refine aw_to ([(5, .sv (.int .i64 v4))], []) ?_ ?_
    · have h := h1
      refine s_reg ?_
      iterate 2 refine v_op hT hC rfl rfl rfl rfl trivial ?_
      refine Vc.nil ?_
      rcases sel_some h with ⟨hb3, h⟩ | ⟨hb3, h⟩
      · refine s_true rfl hb3 ?_
        refine aw_region ?_
        iterate 3 refine v_op hT hC rfl rfl rfl rfl trivial ?_
        refine Vc.nil ?_
        injection h with h
        subst h
        refine m_norm ?_
        apply w_conv hC []
        · repeat' first | exact CO.nil | apply CO.gone | apply CO.row rfl rfl | apply CO.box rfl rfl | decide
        · rfl
        · decide
        · rfl
      · refine s_false rfl hb3 ?_
        refine aw_skip ?_
        injection h with h
        subst h
        refine m_norm ?_
        apply w_conv hC []
        · repeat' first | exact CO.nil | apply CO.gone | apply CO.row rfl rfl | apply CO.box rfl rfl | decide
        · rfl
        · decide
        · rfl
    refine s_reg ?_
    iterate 2 refine v_op hT hC rfl rfl rfl rfl trivial ?_
    refine Vc.nil ?_
    refine aw_ret ?_
    injection h with h
    subst h
    exact ends (Weak.refl _) rfl trivial
def impl_QueueOk_res (r : Bool) : AV := .sv (.bool r)
def impl_QueueOk_obs (r : Bool) : Objs := []
theorem impl_QueueOk_ac {p0 : Queue} {r : Bool} (h : impl_QueueOk p0 = some r) : AC Try.prog 62 [.agg [.sv (.bool p0.Begun), .sv (.int .i64 p0.Next), .sv (.int .i64 p0.Age), .sv (cPacket.sv p0.Held), .sv (.int .i64 p0.Late), .sv (.int .i64 p0.Far), .sv (.int .i64 p0.Twice), .sv (.int .i64 p0.Over), .sv (.int .i64 p0.Lost)]] [] (impl_QueueOk_res r) (impl_QueueOk_obs r) := by
  refine ac_of_body hT Try.func62 rfl fun C hC => ?_
  unfold impl_QueueOk at h
  refine s_reg ?_
  iterate 2 refine v_op hT hC rfl rfl rfl rfl trivial ?_
  refine Vc.nil ?_
  refine s_in ?_
  refine s_reg ?_
  iterate 3 refine v_op hT hC rfl rfl rfl rfl trivial ?_
  refine Vc.nil ?_
  rcases sel_some h with ⟨hb1, h⟩ | ⟨hb1, h⟩
  · refine s_true rfl hb1 ?_
    refine live [1, 2] [16] (s' := [_, _]) (o' := [_]) rfl rfl ?_
    obtain ⟨v1, h1, h⟩ := bnd_some h
    refine aw_to ([(2, .sv (.bool v1)), (1, .any)], [(16, none)]) ?_ ?_
    · have h := h1
      refine aw_region ?_
      iterate 4 refine v_op hT hC rfl rfl rfl rfl trivial ?_
      rcases sel_some h with ⟨hb2, h⟩ | ⟨hb2, h⟩
      · iterate 3 refine v_on hT hC rfl rfl rfl rfl hb2 rfl rfl rfl trivial ?_
        refine v_pick hC rfl rfl rfl (b := true) hb2 rfl rfl rfl trivial ?_
        refine v_op hT hC rfl rfl rfl rfl trivial ?_
        rcases sel_some h with ⟨hb3, h⟩ | ⟨hb3, h⟩
        · iterate 4 refine v_on hT hC rfl rfl rfl rfl hb3 rfl rfl rfl trivial ?_
          refine v_pick hC rfl rfl rfl (b := true) hb3 rfl rfl rfl trivial ?_
          refine v_op hT hC rfl rfl rfl rfl trivial ?_
          rcases sel_some h with ⟨hb4, h⟩ | ⟨hb4, h⟩
          · iterate 3 refine v_on hT hC rfl rfl rfl rfl hb4 rfl rfl rfl trivial ?_
            refine v_pick hC rfl rfl rfl (b := true) hb4 rfl rfl rfl trivial ?_
            refine v_op hT hC rfl rfl rfl rfl trivial ?_
            rcases sel_some h with ⟨hb5, h⟩ | ⟨hb5, h⟩
            · iterate 3 refine v_on hT hC rfl rfl rfl rfl hb5 rfl rfl rfl trivial ?_
              refine v_pick hC rfl rfl rfl (b := true) hb5 rfl rfl rfl trivial ?_
              refine v_op hT hC rfl rfl rfl rfl trivial ?_
              rcases sel_some h with ⟨hb6, h⟩ | ⟨hb6, h⟩
              · iterate 3 refine v_on hT hC rfl rfl rfl rfl hb6 rfl rfl rfl trivial ?_
                refine v_pick hC rfl rfl rfl (b := true) hb6 rfl rfl rfl trivial ?_
                refine v_op hT hC rfl rfl rfl rfl trivial ?_
                rcases sel_some h with ⟨hb7, h⟩ | ⟨hb7, h⟩
                · iterate 3 refine v_on hT hC rfl rfl rfl rfl hb7 rfl rfl rfl trivial ?_
                  refine v_pick hC rfl rfl rfl (b := true) hb7 rfl rfl rfl trivial ?_
                  refine v_op hT hC rfl rfl rfl rfl trivial ?_
                  rcases sel_some h with ⟨hb8, h⟩ | ⟨hb8, h⟩
                  · iterate 3 refine v_on hT hC rfl rfl rfl rfl hb8 rfl rfl rfl trivial ?_
                    refine v_pick hC rfl rfl rfl (b := true) hb8 rfl rfl rfl trivial ?_
                    refine v_op hT hC rfl rfl rfl rfl trivial ?_
                    refine Vc.nil ?_
                    injection h with h
                    subst h
                    refine m_norm ?_
                    apply w_conv hC []
                    · repeat' first | exact CO.nil | apply CO.gone | apply CO.row rfl rfl | apply CO.box rfl rfl | decide
                    · rfl
                    · decide
                    · rfl
                  · refine v_off hC rfl rfl rfl rfl hb8 rfl rfl ?_
                    refine v_off hC rfl rfl rfl rfl hb8 rfl rfl ?_
                    refine v_off hC rfl rfl rfl rfl hb8 rfl rfl ?_
                    refine v_pick hC rfl rfl rfl (b := false) hb8 rfl rfl rfl trivial ?_
                    refine v_op hT hC rfl rfl rfl rfl trivial ?_
                    refine Vc.nil ?_
                    injection h with h
                    subst h
                    refine m_norm ?_
                    apply w_conv hC []
                    · repeat' first | exact CO.nil | apply CO.gone | apply CO.row rfl rfl | apply CO.box rfl rfl | decide
                    · rfl
                    · decide
                    · rfl
                · refine v_off hC rfl rfl rfl rfl hb7 rfl rfl ?_
                  refine v_off hC rfl rfl rfl rfl hb7 rfl rfl ?_
                  refine v_off hC rfl rfl rfl rfl hb7 rfl rfl ?_
                  refine v_pick hC rfl rfl rfl (b := false) hb7 rfl rfl rfl trivial ?_
                  refine v_op hT hC rfl rfl rfl rfl trivial ?_
                  refine v_off hC rfl rfl rfl rfl rfl rfl rfl ?_
                  refine v_off hC rfl rfl rfl rfl rfl rfl rfl ?_
                  refine v_off hC rfl rfl rfl rfl rfl rfl rfl ?_
                  iterate 2 refine v_op hT hC rfl rfl rfl rfl trivial ?_
                  refine Vc.nil ?_
                  injection h with h
                  subst h
                  refine m_norm ?_
                  apply w_conv hC []
                  · repeat' first | exact CO.nil | apply CO.gone | apply CO.row rfl rfl | apply CO.box rfl rfl | decide
                  · rfl
                  · decide
                  · rfl
              · refine v_off hC rfl rfl rfl rfl hb6 rfl rfl ?_
                refine v_off hC rfl rfl rfl rfl hb6 rfl rfl ?_
                refine v_off hC rfl rfl rfl rfl hb6 rfl rfl ?_
                refine v_pick hC rfl rfl rfl (b := false) hb6 rfl rfl rfl trivial ?_
                refine v_op hT hC rfl rfl rfl rfl trivial ?_
                refine v_off hC rfl rfl rfl rfl rfl rfl rfl ?_
                refine v_off hC rfl rfl rfl rfl rfl rfl rfl ?_
                refine v_off hC rfl rfl rfl rfl rfl rfl rfl ?_
                iterate 2 refine v_op hT hC rfl rfl rfl rfl trivial ?_
                refine v_off hC rfl rfl rfl rfl rfl rfl rfl ?_
                refine v_off hC rfl rfl rfl rfl rfl rfl rfl ?_
                refine v_off hC rfl rfl rfl rfl rfl rfl rfl ?_
                iterate 2 refine v_op hT hC rfl rfl rfl rfl trivial ?_
                refine Vc.nil ?_
                injection h with h
                subst h
                refine m_norm ?_
                apply w_conv hC []
                · repeat' first | exact CO.nil | apply CO.gone | apply CO.row rfl rfl | apply CO.box rfl rfl | decide
                · rfl
                · decide
                · rfl
            · refine v_off hC rfl rfl rfl rfl hb5 rfl rfl ?_
              refine v_off hC rfl rfl rfl rfl hb5 rfl rfl ?_
              refine v_off hC rfl rfl rfl rfl hb5 rfl rfl ?_
              refine v_pick hC rfl rfl rfl (b := false) hb5 rfl rfl rfl trivial ?_
              refine v_op hT hC rfl rfl rfl rfl trivial ?_
              refine v_off hC rfl rfl rfl rfl rfl rfl rfl ?_
              refine v_off hC rfl rfl rfl rfl rfl rfl rfl ?_
              refine v_off hC rfl rfl rfl rfl rfl rfl rfl ?_
              iterate 2 refine v_op hT hC rfl rfl rfl rfl trivial ?_
              refine v_off hC rfl rfl rfl rfl rfl rfl rfl ?_
              refine v_off hC rfl rfl rfl rfl rfl rfl rfl ?_
              refine v_off hC rfl rfl rfl rfl rfl rfl rfl ?_
              iterate 2 refine v_op hT hC rfl rfl rfl rfl trivial ?_
              refine v_off hC rfl rfl rfl rfl rfl rfl rfl ?_
              refine v_off hC rfl rfl rfl rfl rfl rfl rfl ?_
              refine v_off hC rfl rfl rfl rfl rfl rfl rfl ?_
              iterate 2 refine v_op hT hC rfl rfl rfl rfl trivial ?_
              refine Vc.nil ?_
              injection h with h
              subst h
              refine m_norm ?_
              apply w_conv hC []
              · repeat' first | exact CO.nil | apply CO.gone | apply CO.row rfl rfl | apply CO.box rfl rfl | decide
              · rfl
              · decide
              · rfl
          · refine v_off hC rfl rfl rfl rfl hb4 rfl rfl ?_
            refine v_off hC rfl rfl rfl rfl hb4 rfl rfl ?_
            refine v_off hC rfl rfl rfl rfl hb4 rfl rfl ?_
            refine v_pick hC rfl rfl rfl (b := false) hb4 rfl rfl rfl trivial ?_
            refine v_op hT hC rfl rfl rfl rfl trivial ?_
            refine v_off hC rfl rfl rfl rfl rfl rfl rfl ?_
            refine v_off hC rfl rfl rfl rfl rfl rfl rfl ?_
            refine v_off hC rfl rfl rfl rfl rfl rfl rfl ?_
            iterate 2 refine v_op hT hC rfl rfl rfl rfl trivial ?_
            refine v_off hC rfl rfl rfl rfl rfl rfl rfl ?_
            refine v_off hC rfl rfl rfl rfl rfl rfl rfl ?_
            refine v_off hC rfl rfl rfl rfl rfl rfl rfl ?_
            iterate 2 refine v_op hT hC rfl rfl rfl rfl trivial ?_
            refine v_off hC rfl rfl rfl rfl rfl rfl rfl ?_
            refine v_off hC rfl rfl rfl rfl rfl rfl rfl ?_
            refine v_off hC rfl rfl rfl rfl rfl rfl rfl ?_
            iterate 2 refine v_op hT hC rfl rfl rfl rfl trivial ?_
            refine v_off hC rfl rfl rfl rfl rfl rfl rfl ?_
            refine v_off hC rfl rfl rfl rfl rfl rfl rfl ?_
            refine v_off hC rfl rfl rfl rfl rfl rfl rfl ?_
            iterate 2 refine v_op hT hC rfl rfl rfl rfl trivial ?_
            refine Vc.nil ?_
            injection h with h
            subst h
            refine m_norm ?_
            apply w_conv hC []
            · repeat' first | exact CO.nil | apply CO.gone | apply CO.row rfl rfl | apply CO.box rfl rfl | decide
            · rfl
            · decide
            · rfl
        · refine v_off hC rfl rfl rfl rfl hb3 rfl rfl ?_
          refine v_off hC rfl rfl rfl rfl hb3 rfl rfl ?_
          refine v_off hC rfl rfl rfl rfl hb3 rfl rfl ?_
          refine v_off hC rfl rfl rfl rfl hb3 rfl rfl ?_
          refine v_pick hC rfl rfl rfl (b := false) hb3 rfl rfl rfl trivial ?_
          refine v_op hT hC rfl rfl rfl rfl trivial ?_
          refine v_off hC rfl rfl rfl rfl rfl rfl rfl ?_
          refine v_off hC rfl rfl rfl rfl rfl rfl rfl ?_
          refine v_off hC rfl rfl rfl rfl rfl rfl rfl ?_
          iterate 2 refine v_op hT hC rfl rfl rfl rfl trivial ?_
          refine v_off hC rfl rfl rfl rfl rfl rfl rfl ?_
          refine v_off hC rfl rfl rfl rfl rfl rfl rfl ?_
          refine v_off hC rfl rfl rfl rfl rfl rfl rfl ?_
          iterate 2 refine v_op hT hC rfl rfl rfl rfl trivial ?_
          refine v_off hC rfl rfl rfl rfl rfl rfl rfl ?_
          refine v_off hC rfl rfl rfl rfl rfl rfl rfl ?_
          refine v_off hC rfl rfl rfl rfl rfl rfl rfl ?_
          iterate 2 refine v_op hT hC rfl rfl rfl rfl trivial ?_
          refine v_off hC rfl rfl rfl rfl rfl rfl rfl ?_
          refine v_off hC rfl rfl rfl rfl rfl rfl rfl ?_
          refine v_off hC rfl rfl rfl rfl rfl rfl rfl ?_
          iterate 2 refine v_op hT hC rfl rfl rfl rfl trivial ?_
          refine v_off hC rfl rfl rfl rfl rfl rfl rfl ?_
          refine v_off hC rfl rfl rfl rfl rfl rfl rfl ?_
          refine v_off hC rfl rfl rfl rfl rfl rfl rfl ?_
          iterate 2 refine v_op hT hC rfl rfl rfl rfl trivial ?_
          refine Vc.nil ?_
          injection h with h
          subst h
          refine m_norm ?_
          apply w_conv hC []
          · repeat' first | exact CO.nil | apply CO.gone | apply CO.row rfl rfl | apply CO.box rfl rfl | decide
          · rfl
          · decide
          · rfl
      · refine v_off hC rfl rfl rfl rfl hb2 rfl rfl ?_
        refine v_off hC rfl rfl rfl rfl hb2 rfl rfl ?_
        refine v_off hC rfl rfl rfl rfl hb2 rfl rfl ?_
        refine v_pick hC rfl rfl rfl (b := false) hb2 rfl rfl rfl trivial ?_
        refine v_op hT hC rfl rfl rfl rfl trivial ?_
        refine v_off hC rfl rfl rfl rfl rfl rfl rfl ?_
        refine v_off hC rfl rfl rfl rfl rfl rfl rfl ?_
        refine v_off hC rfl rfl rfl rfl rfl rfl rfl ?_
        refine v_off hC rfl rfl rfl rfl rfl rfl rfl ?_
        iterate 2 refine v_op hT hC rfl rfl rfl rfl trivial ?_
        refine v_off hC rfl rfl rfl rfl rfl rfl rfl ?_
        refine v_off hC rfl rfl rfl rfl rfl rfl rfl ?_
        refine v_off hC rfl rfl rfl rfl rfl rfl rfl ?_
        iterate 2 refine v_op hT hC rfl rfl rfl rfl trivial ?_
        refine v_off hC rfl rfl rfl rfl rfl rfl rfl ?_
        refine v_off hC rfl rfl rfl rfl rfl rfl rfl ?_
        refine v_off hC rfl rfl rfl rfl rfl rfl rfl ?_
        iterate 2 refine v_op hT hC rfl rfl rfl rfl trivial ?_
        refine v_off hC rfl rfl rfl rfl rfl rfl rfl ?_
        refine v_off hC rfl rfl rfl rfl rfl rfl rfl ?_
        refine v_off hC rfl rfl rfl rfl rfl rfl rfl ?_
        iterate 2 refine v_op hT hC rfl rfl rfl rfl trivial ?_
        refine v_off hC rfl rfl rfl rfl rfl rfl rfl ?_
        refine v_off hC rfl rfl rfl rfl rfl rfl rfl ?_
        refine v_off hC rfl rfl rfl rfl rfl rfl rfl ?_
        iterate 2 refine v_op hT hC rfl rfl rfl rfl trivial ?_
        refine v_off hC rfl rfl rfl rfl rfl rfl rfl ?_
        refine v_off hC rfl rfl rfl rfl rfl rfl rfl ?_
        refine v_off hC rfl rfl rfl rfl rfl rfl rfl ?_
        iterate 2 refine v_op hT hC rfl rfl rfl rfl trivial ?_
        refine Vc.nil ?_
        injection h with h
        subst h
        refine m_norm ?_
        apply w_conv hC []
        · repeat' first | exact CO.nil | apply CO.gone | apply CO.row rfl rfl | apply CO.box rfl rfl | decide
        · rfl
        · decide
        · rfl
    refine aw_ret ?_
    refine t_ret ?_
    injection h with h
    subst h
    exact ends (Weak.refl _) rfl trivial
  · refine s_false rfl hb1 ?_
    refine aw_skip ?_
    refine t_norm ?_
    refine s_in ?_
    refine live [1] [16] (s' := [_]) (o' := [_]) rfl rfl ?_
    obtain ⟨v2, h1, h⟩ := bnd_some h
    refine aw_to ([(66, .sv (.bool v2))], []) ?_ ?_
    · have h := h1
      refine aw_region ?_
      iterate 2 refine v_op hT hC rfl rfl rfl rfl trivial ?_
      obtain ⟨q3, hq, h⟩ := bnd_some h
      refine v_call hC [] rfl rfl rfl rfl Try.call144 (impl_isNumber_ac hq) rfl (by decide) trivial rfl (.inl rfl) rfl ?_
      iterate 2 refine v_op hT hC rfl rfl rfl rfl trivial ?_
      rcases sel_some h with ⟨hb9, h⟩ | ⟨hb9, h⟩
      · iterate 2 refine v_on hT hC rfl rfl rfl rfl (congrArg Bool.not hb9) rfl rfl rfl trivial ?_
        obtain ⟨q4, hq, h⟩ := bnd_some h
        refine v_call_on hC [] rfl rfl rfl rfl (congrArg Bool.not hb9) rfl rfl rfl Try.call102 (impl_within_ac hq) rfl (by decide) trivial rfl (.inl rfl) rfl ?_
        refine v_on hT hC rfl rfl rfl rfl (congrArg Bool.not hb9) rfl rfl rfl trivial ?_
        refine v_pick hC rfl rfl rfl (b := false) (congrArg Bool.not hb9) rfl rfl rfl trivial ?_
        refine v_op hT hC rfl rfl rfl rfl trivial ?_
        rcases sel_some h with ⟨hb10, h⟩ | ⟨hb10, h⟩
        · iterate 4 refine v_on hT hC rfl rfl rfl rfl (congrArg Bool.not hb10) rfl rfl rfl trivial ?_
          refine v_pick hC rfl rfl rfl (b := false) (congrArg Bool.not hb10) rfl rfl rfl trivial ?_
          refine Vc.nil ?_
          injection h with h
          subst h
          refine m_norm ?_
          apply w_conv hC []
          · repeat' first | exact CO.nil | apply CO.gone | apply CO.row rfl rfl | apply CO.box rfl rfl | decide
          · rfl
          · decide
          · rfl
        · refine v_off hC rfl rfl rfl rfl (congrArg Bool.not hb10) rfl rfl ?_
          refine v_off hC rfl rfl rfl rfl (congrArg Bool.not hb10) rfl rfl ?_
          refine v_off hC rfl rfl rfl rfl (congrArg Bool.not hb10) rfl rfl ?_
          refine v_off hC rfl rfl rfl rfl (congrArg Bool.not hb10) rfl rfl ?_
          refine v_pick hC rfl rfl rfl (b := true) (congrArg Bool.not hb10) rfl rfl rfl trivial ?_
          refine Vc.nil ?_
          injection h with h
          subst h
          refine m_norm ?_
          apply w_conv hC []
          · repeat' first | exact CO.nil | apply CO.gone | apply CO.row rfl rfl | apply CO.box rfl rfl | decide
          · rfl
          · decide
          · rfl
      · refine v_off hC rfl rfl rfl rfl (congrArg Bool.not hb9) rfl rfl ?_
        refine v_off hC rfl rfl rfl rfl (congrArg Bool.not hb9) rfl rfl ?_
        refine v_off hC rfl rfl rfl rfl (congrArg Bool.not hb9) rfl rfl ?_
        refine v_off hC rfl rfl rfl rfl (congrArg Bool.not hb9) rfl rfl ?_
        refine v_pick hC rfl rfl rfl (b := true) (congrArg Bool.not hb9) rfl rfl rfl trivial ?_
        refine v_op hT hC rfl rfl rfl rfl trivial ?_
        refine v_off hC rfl rfl rfl rfl rfl rfl rfl ?_
        refine v_off hC rfl rfl rfl rfl rfl rfl rfl ?_
        refine v_off hC rfl rfl rfl rfl rfl rfl rfl ?_
        refine v_off hC rfl rfl rfl rfl rfl rfl rfl ?_
        refine v_op hT hC rfl rfl rfl rfl trivial ?_
        refine Vc.nil ?_
        injection h with h
        subst h
        refine m_norm ?_
        apply w_conv hC []
        · repeat' first | exact CO.nil | apply CO.gone | apply CO.row rfl rfl | apply CO.box rfl rfl | decide
        · rfl
        · decide
        · rfl
    rcases sel_some h with ⟨hb11, h⟩ | ⟨hb11, h⟩
    · refine s_true rfl hb11 ?_
      refine s_reg ?_
      refine v_op hT hC rfl rfl rfl rfl trivial ?_
      refine Vc.nil ?_
      refine aw_ret ?_
      refine t_ret ?_
      injection h with h
      subst h
      exact ends (Weak.refl _) rfl trivial
    · refine s_false rfl hb11 ?_
      refine aw_skip ?_
      refine t_norm ?_
      refine s_reg ?_
      refine v_op hT hC rfl rfl rfl rfl trivial ?_
      refine Vc.nil ?_
      refine s_in ?_
      refine s_reg ?_
      iterate 4 refine v_op hT hC rfl rfl rfl rfl trivial ?_
      refine Vc.nil ?_
      refine live [1, 3, 68, 69, 70] [16] (s' := [_, _, _, _, _]) (o' := [_]) rfl rfl ?_
      obtain ⟨o21, hl, h⟩ := bnd_some h
      refine s_loopR (fun v10 => ([(3, .sv (.int .i64 v10.1)), (70, .sv (.int .i64 v10.2))], [])) (fun v16 => ([(3, .any), (68, .any), (69, .any), (70, .any)], [])) (fun r => EndsA C T Try.f62.results.toList (impl_QueueOk_res r) (impl_QueueOk_obs r)) hl ?_ ?_ ?_ ?_
      · try dsimp only
        apply w_conv hC []
        · repeat' first | exact CO.nil | apply CO.gone | apply CO.row rfl rfl | apply CO.box rfl rfl | decide
        · rfl
        · decide
        · rfl
      · intro v10 s hs
        have h := hs
        unfold impl_QueueOk_l2 at h
        refine s_reg ?_
        refine v_op hT hC rfl rfl rfl rfl trivial ?_
        refine Vc.nil ?_
        refine s_in ?_
        rcases sel_some h with ⟨hb18, h⟩ | ⟨hb18, h⟩
        · refine s_true rfl hb18 ?_
          refine aw_skip ?_
          refine t_norm ?_
          refine s_in ?_
          refine s_block ?_
          refine s_reg ?_
          obtain ⟨hq, h⟩ := req_some h
          refine v_op hT hC rfl rfl rfl rfl hq ?_
          iterate 3 refine v_op hT hC rfl rfl rfl rfl trivial ?_
          refine Vc.nil ?_
          refine s_reg ?_
          iterate 4 refine v_op hT hC rfl rfl rfl rfl trivial ?_
          obtain ⟨q17, hq, h⟩ := bnd_some h
          refine v_call hC [] rfl rfl rfl rfl Try.call145 (impl_SeqGap_ac hq) rfl (by decide) trivial rfl (.inl rfl) rfl ?_
          refine v_op hT hC rfl rfl rfl rfl trivial ?_
          refine Vc.nil ?_
          refine s_in ?_
          refine live [1, 3, 5, 6, 68, 69, 70] [16, 80] (s' := [_, _, _, _, _, _, _]) (o' := [_, _]) rfl rfl ?_
          obtain ⟨v18, h1, h⟩ := bnd_some h
          refine aw_to ([(88, .sv (.bool v18)), (3, .any), (5, .any)], [(80, none)]) ?_ ?_
          · have h := h1
            refine aw_region ?_
            refine v_op hT hC rfl rfl rfl rfl trivial ?_
            obtain ⟨q19, hq, h⟩ := bnd_some h
            refine v_call hC [] rfl rfl rfl rfl Try.call127 (impl_PacketOk_ac hq) rfl (by decide) trivial rfl (.inl rfl) rfl ?_
            iterate 2 refine v_op hT hC rfl rfl rfl rfl trivial ?_
            rcases sel_some h with ⟨hb19, h⟩ | ⟨hb19, h⟩
            · iterate 3 refine v_on hT hC rfl rfl rfl rfl (congrArg Bool.not hb19) rfl rfl rfl trivial ?_
              obtain ⟨q20, hq, h⟩ := bnd_some h
              refine v_call_on hC [] rfl rfl rfl rfl (congrArg Bool.not hb19) rfl rfl rfl Try.call102 (impl_within_ac hq) rfl (by decide) trivial rfl (.inl rfl) rfl ?_
              refine v_on hT hC rfl rfl rfl rfl (congrArg Bool.not hb19) rfl rfl rfl trivial ?_
              refine v_pick hC rfl rfl rfl (b := false) (congrArg Bool.not hb19) rfl rfl rfl trivial ?_
              refine Vc.nil ?_
              injection h with h
              subst h
              refine m_norm ?_
              apply w_conv hC []
              · repeat' first | exact CO.nil | apply CO.gone | apply CO.row rfl rfl | apply CO.box rfl rfl | decide
              · rfl
              · decide
              · rfl
            · refine v_off hC rfl rfl rfl rfl (congrArg Bool.not hb19) rfl rfl ?_
              refine v_off hC rfl rfl rfl rfl (congrArg Bool.not hb19) rfl rfl ?_
              refine v_off hC rfl rfl rfl rfl (congrArg Bool.not hb19) rfl rfl ?_
              refine v_off hC rfl rfl rfl rfl (congrArg Bool.not hb19) rfl rfl ?_
              refine v_off hC rfl rfl rfl rfl (congrArg Bool.not hb19) rfl rfl ?_
              refine v_pick hC rfl rfl rfl (b := true) (congrArg Bool.not hb19) rfl rfl rfl trivial ?_
              refine Vc.nil ?_
              injection h with h
              subst h
              refine m_norm ?_
              apply w_conv hC []
              · repeat' first | exact CO.nil | apply CO.gone | apply CO.row rfl rfl | apply CO.box rfl rfl | decide
              · rfl
              · decide
              · rfl
          rcases sel_some h with ⟨hb20, h⟩ | ⟨hb20, h⟩
          · refine s_true rfl hb20 ?_
            refine s_reg ?_
            refine v_op hT hC rfl rfl rfl rfl trivial ?_
            refine Vc.nil ?_
            refine aw_ret ?_
            refine t_ret ?_
            refine b_ret ?_
            refine t_ret ?_
            injection h with h
            subst h
            refine r_ret ?_
            refine o_ret ?_
            exact ends (Weak.refl _) rfl trivial
          · refine s_false rfl hb20 ?_
            refine aw_skip ?_
            refine t_norm ?_
            refine aw_region ?_
            iterate 2 refine v_op hT hC rfl rfl rfl rfl trivial ?_
            refine Vc.nil ?_
            refine b_norm ?_
            refine t_norm ?_
            refine aw_region ?_
            iterate 2 refine v_op hT hC rfl rfl rfl rfl trivial ?_
            refine Vc.nil ?_
            injection h with h
            subst h
            refine r_go ?_
            try dsimp only
            apply w_conv hC []
            · repeat' first | exact CO.nil | apply CO.gone | apply CO.row rfl rfl | apply CO.box rfl rfl | decide
            · rfl
            · decide
            · rfl
        · refine s_false rfl hb18 ?_
          refine aw_exit ?_
          refine t_exit ?_
          injection h with h
          subst h
          refine r_exit ?_
          refine o_both ?_
          apply w_conv hC []
          · repeat' first | exact CO.nil | apply CO.gone | apply CO.row rfl rfl | apply CO.box rfl rfl | decide
          · rfl
          · decide
          · rfl
      · intro v16 e
        subst e
        refine t_norm ?_
        refine s_in ?_
        refine s_reg ?_
        iterate 13 refine v_op hT hC rfl rfl rfl rfl trivial ?_
        refine Vc.nil ?_
        refine live [101, 102, 103] [1616] (s' := [_, _, _]) (o' := [_]) rfl rfl ?_
        obtain ⟨o29, hl, h⟩ := bnd_some h
        refine s_loopR (fun v24 => ([(103, .sv (.int .i64 v24))], [])) (fun v27 => ([(101, .any), (102, .any), (103, .any)], [(1616, none)])) (fun r => EndsA C T Try.f62.results.toList (impl_QueueOk_res r) (impl_QueueOk_obs r)) hl ?_ ?_ ?_ ?_
        · apply w_conv hC []
          · repeat' first | exact CO.nil | apply CO.gone | apply CO.row rfl rfl | apply CO.box rfl rfl | decide
          · rfl
          · decide
          · rfl
        · intro v24 s hs
          have h := hs
          unfold impl_QueueOk_l4 at h
          refine s_reg ?_
          refine v_op hT hC rfl rfl rfl rfl trivial ?_
          refine Vc.nil ?_
          refine s_in ?_
          rcases sel_some h with ⟨hb25, h⟩ | ⟨hb25, h⟩
          · refine s_true rfl hb25 ?_
            refine aw_skip ?_
            refine t_norm ?_
            refine s_in ?_
            refine s_block ?_
            refine s_reg ?_
            obtain ⟨hq, h⟩ := req_some h
            refine v_op hT hC rfl rfl rfl rfl hq ?_
            obtain ⟨hq, h⟩ := req_some h
            refine v_op hT hC rfl rfl rfl rfl hq ?_
            refine v_op hT hC rfl rfl rfl rfl trivial ?_
            refine Vc.nil ?_
            refine s_reg ?_
            refine v_op hT hC rfl rfl rfl rfl trivial ?_
            obtain ⟨q28, hq, h⟩ := bnd_some h
            refine v_call hC [] rfl rfl rfl rfl Try.call102 (impl_within_ac hq) rfl (by decide) trivial rfl (.inl rfl) rfl ?_
            refine v_op hT hC rfl rfl rfl rfl trivial ?_
            refine Vc.nil ?_
            rcases sel_some h with ⟨hb26, h⟩ | ⟨hb26, h⟩
            · refine s_true rfl hb26 ?_
              refine s_reg ?_
              refine v_op hT hC rfl rfl rfl rfl trivial ?_
              refine Vc.nil ?_
              refine aw_ret ?_
              refine b_ret ?_
              refine t_ret ?_
              injection h with h
              subst h
              refine r_ret ?_
              refine o_ret ?_
              exact ends (Weak.refl _) rfl trivial
            · refine s_false rfl hb26 ?_
              refine aw_skip ?_
              refine b_norm ?_
              refine t_norm ?_
              refine aw_region ?_
              iterate 2 refine v_op hT hC rfl rfl rfl rfl trivial ?_
              refine Vc.nil ?_
              injection h with h
              subst h
              refine r_go ?_
              apply w_conv hC []
              · repeat' first | exact CO.nil | apply CO.gone | apply CO.row rfl rfl | apply CO.box rfl rfl | decide
              · rfl
              · decide
              · rfl
          · refine s_false rfl hb25 ?_
            refine aw_exit ?_
            refine t_exit ?_
            injection h with h
            subst h
            refine r_exit ?_
            refine o_both ?_
            apply w_conv hC []
            · repeat' first | exact CO.nil | apply CO.gone | apply CO.row rfl rfl | apply CO.box rfl rfl | decide
            · rfl
            · decide
            · rfl
        · intro v27 e
          subst e
          refine t_norm ?_
          refine s_reg ?_
          refine v_op hT hC rfl rfl rfl rfl trivial ?_
          refine Vc.nil ?_
          refine aw_ret ?_
          injection h with h
          subst h
          exact ends (Weak.refl _) rfl trivial
        · intro r' σ' e hE
          subst e
          injection h with h
          subst h
          refine t_ret ?_
          exact hE
      · intro r' σ' e hE
        subst e
        injection h with h
        subst h
        refine t_ret ?_
        exact hE
def impl_counted_res (r : Int) : AV := .sv (.int .i64 r)
def impl_counted_obs (r : Int) : Objs := []
theorem impl_counted_ac {p0 : Int} {r : Int} (h : impl_counted p0 = some r) : AC Try.prog 141 [.sv (.int .i64 p0)] [] (impl_counted_res r) (impl_counted_obs r) := by
  refine ac_of_body hT Try.func141 rfl fun C hC => ?_
  unfold impl_counted at h
  refine s_reg ?_
  refine v_op hT hC rfl rfl rfl rfl trivial ?_
  refine Vc.nil ?_
  refine s_reg ?_
  iterate 4 refine v_op hT hC rfl rfl rfl rfl trivial ?_
  refine Vc.nil ?_
  refine aw_ret ?_
  injection h with h
  subst h
  exact ends (Weak.refl _) rfl trivial
def laws_eqQueue_res (r : Bool) : AV := .sv (.bool r)
def laws_eqQueue_obs (r : Bool) : Objs := []
theorem laws_eqQueue_ac {p0 : Queue} {p1 : Queue} {r : Bool} (h : laws_eqQueue p0 p1 = some r) : AC Try.prog 57 [.agg [.sv (.bool p0.Begun), .sv (.int .i64 p0.Next), .sv (.int .i64 p0.Age), .sv (cPacket.sv p0.Held), .sv (.int .i64 p0.Late), .sv (.int .i64 p0.Far), .sv (.int .i64 p0.Twice), .sv (.int .i64 p0.Over), .sv (.int .i64 p0.Lost)], .agg [.sv (.bool p1.Begun), .sv (.int .i64 p1.Next), .sv (.int .i64 p1.Age), .sv (cPacket.sv p1.Held), .sv (.int .i64 p1.Late), .sv (.int .i64 p1.Far), .sv (.int .i64 p1.Twice), .sv (.int .i64 p1.Over), .sv (.int .i64 p1.Lost)]] [] (laws_eqQueue_res r) (laws_eqQueue_obs r) := by
  refine ac_of_body hT Try.func57 rfl fun C hC => ?_
  unfold laws_eqQueue at h
  refine s_reg ?_
  iterate 3 refine v_op hT hC rfl rfl rfl rfl trivial ?_
  refine Vc.nil ?_
  refine s_in ?_
  refine s_reg ?_
  iterate 5 refine v_op hT hC rfl rfl rfl rfl trivial ?_
  refine Vc.nil ?_
  rcases sel_some h with ⟨hb1, h⟩ | ⟨hb1, h⟩
  · refine s_true rfl hb1 ?_
    refine s_reg ?_
    refine v_op hT hC rfl rfl rfl rfl trivial ?_
    refine Vc.nil ?_
    refine aw_ret ?_
    refine t_ret ?_
    injection h with h
    subst h
    exact ends (Weak.refl _) rfl trivial
  · refine s_false rfl hb1 ?_
    refine aw_skip ?_
    refine t_norm ?_
    refine s_in ?_
    refine s_reg ?_
    iterate 5 refine v_op hT hC rfl rfl rfl rfl trivial ?_
    refine Vc.nil ?_
    rcases sel_some h with ⟨hb2, h⟩ | ⟨hb2, h⟩
    · refine s_true rfl hb2 ?_
      refine s_reg ?_
      refine v_op hT hC rfl rfl rfl rfl trivial ?_
      refine Vc.nil ?_
      refine aw_ret ?_
      refine t_ret ?_
      injection h with h
      subst h
      exact ends (Weak.refl _) rfl trivial
    · refine s_false rfl hb2 ?_
      refine aw_skip ?_
      refine t_norm ?_
      refine s_in ?_
      refine s_reg ?_
      iterate 5 refine v_op hT hC rfl rfl rfl rfl trivial ?_
      refine Vc.nil ?_
      rcases sel_some h with ⟨hb3, h⟩ | ⟨hb3, h⟩
      · refine s_true rfl hb3 ?_
        refine s_reg ?_
        refine v_op hT hC rfl rfl rfl rfl trivial ?_
        refine Vc.nil ?_
        refine aw_ret ?_
        refine t_ret ?_
        injection h with h
        subst h
        exact ends (Weak.refl _) rfl trivial
      · refine s_false rfl hb3 ?_
        refine aw_skip ?_
        refine t_norm ?_
        refine s_in ?_
        refine s_reg ?_
        iterate 4 refine v_op hT hC rfl rfl rfl rfl trivial ?_
        obtain ⟨q1, hq, h⟩ := bnd_some h
        refine v_call hC [] rfl rfl rfl rfl Try.call43 (laws_eqPacketS_ac hq) rfl (by decide) trivial rfl (.inl rfl) rfl ?_
        refine v_op hT hC rfl rfl rfl rfl trivial ?_
        refine Vc.nil ?_
        rcases sel_some h with ⟨hb4, h⟩ | ⟨hb4, h⟩
        · refine s_true rfl hb4 ?_
          refine s_reg ?_
          refine v_op hT hC rfl rfl rfl rfl trivial ?_
          refine Vc.nil ?_
          refine aw_ret ?_
          refine t_ret ?_
          injection h with h
          subst h
          exact ends (Weak.refl _) rfl trivial
        · refine s_false rfl hb4 ?_
          refine aw_skip ?_
          refine t_norm ?_
          refine s_in ?_
          refine s_reg ?_
          iterate 5 refine v_op hT hC rfl rfl rfl rfl trivial ?_
          refine Vc.nil ?_
          rcases sel_some h with ⟨hb5, h⟩ | ⟨hb5, h⟩
          · refine s_true rfl hb5 ?_
            refine s_reg ?_
            refine v_op hT hC rfl rfl rfl rfl trivial ?_
            refine Vc.nil ?_
            refine aw_ret ?_
            refine t_ret ?_
            injection h with h
            subst h
            exact ends (Weak.refl _) rfl trivial
          · refine s_false rfl hb5 ?_
            refine aw_skip ?_
            refine t_norm ?_
            refine s_in ?_
            refine s_reg ?_
            iterate 5 refine v_op hT hC rfl rfl rfl rfl trivial ?_
            refine Vc.nil ?_
            rcases sel_some h with ⟨hb6, h⟩ | ⟨hb6, h⟩
            · refine s_true rfl hb6 ?_
              refine s_reg ?_
              refine v_op hT hC rfl rfl rfl rfl trivial ?_
              refine Vc.nil ?_
              refine aw_ret ?_
              refine t_ret ?_
              injection h with h
              subst h
              exact ends (Weak.refl _) rfl trivial
            · refine s_false rfl hb6 ?_
              refine aw_skip ?_
              refine t_norm ?_
              refine s_in ?_
              refine s_reg ?_
              iterate 5 refine v_op hT hC rfl rfl rfl rfl trivial ?_
              refine Vc.nil ?_
              rcases sel_some h with ⟨hb7, h⟩ | ⟨hb7, h⟩
              · refine s_true rfl hb7 ?_
                refine s_reg ?_
                refine v_op hT hC rfl rfl rfl rfl trivial ?_
                refine Vc.nil ?_
                refine aw_ret ?_
                refine t_ret ?_
                injection h with h
                subst h
                exact ends (Weak.refl _) rfl trivial
              · refine s_false rfl hb7 ?_
                refine aw_skip ?_
                refine t_norm ?_
                refine s_in ?_
                refine s_reg ?_
                iterate 5 refine v_op hT hC rfl rfl rfl rfl trivial ?_
                refine Vc.nil ?_
                rcases sel_some h with ⟨hb8, h⟩ | ⟨hb8, h⟩
                · refine s_true rfl hb8 ?_
                  refine s_reg ?_
                  refine v_op hT hC rfl rfl rfl rfl trivial ?_
                  refine Vc.nil ?_
                  refine aw_ret ?_
                  refine t_ret ?_
                  injection h with h
                  subst h
                  exact ends (Weak.refl _) rfl trivial
                · refine s_false rfl hb8 ?_
                  refine aw_skip ?_
                  refine t_norm ?_
                  refine s_in ?_
                  refine s_reg ?_
                  iterate 5 refine v_op hT hC rfl rfl rfl rfl trivial ?_
                  refine Vc.nil ?_
                  rcases sel_some h with ⟨hb9, h⟩ | ⟨hb9, h⟩
                  · refine s_true rfl hb9 ?_
                    refine s_reg ?_
                    refine v_op hT hC rfl rfl rfl rfl trivial ?_
                    refine Vc.nil ?_
                    refine aw_ret ?_
                    refine t_ret ?_
                    injection h with h
                    subst h
                    exact ends (Weak.refl _) rfl trivial
                  · refine s_false rfl hb9 ?_
                    refine aw_skip ?_
                    refine t_norm ?_
                    refine s_reg ?_
                    refine v_op hT hC rfl rfl rfl rfl trivial ?_
                    refine Vc.nil ?_
                    refine aw_ret ?_
                    injection h with h
                    subst h
                    exact ends (Weak.refl _) rfl trivial
def laws_markQueue_res (r : (Int × Queue)) : AV := .sv (.int .i64 r.1)
def laws_markQueue_obs (r : (Int × Queue)) : Objs := [(2, .row cPacket r.2.Held)]
theorem laws_markQueue_ac {p0 : Queue} {p1 : Int} {r : (Int × Queue)} (h : laws_markQueue p0 p1 = some r) : AC Try.prog 58 [.agg [.sv (.bool p0.Begun), .sv (.int .i64 p0.Next), .sv (.int .i64 p0.Age), .own 2, .sv (.int .i64 p0.Late), .sv (.int .i64 p0.Far), .sv (.int .i64 p0.Twice), .sv (.int .i64 p0.Over), .sv (.int .i64 p0.Lost)], .sv (.int .i64 p1)] [(2, .row cPacket p0.Held)] (laws_markQueue_res r) (laws_markQueue_obs r) := by
  refine ac_of_body hT Try.func58 rfl fun C hC => ?_
  unfold laws_markQueue at h
  refine s_reg ?_
  iterate 2 refine v_op hT hC rfl rfl rfl rfl trivial ?_
  refine Vc.nil ?_
  refine s_reg ?_
  iterate 3 refine v_op hT hC rfl rfl rfl rfl trivial ?_
  obtain ⟨q1, hq, h⟩ := bnd_some h
  refine v_call hC [(0, 2)] rfl rfl rfl rfl Try.call44 (laws_markPacketS_ac hq) rfl (by decide) ⟨rfl, trivial⟩ rfl (.inl rfl) rfl ?_
  refine v_op hT hC rfl rfl rfl rfl trivial ?_
  refine Vc.nil ?_
  refine s_reg ?_
  iterate 2 refine v_op hT hC rfl rfl rfl rfl trivial ?_
  refine Vc.nil ?_
  refine aw_ret ?_
  injection h with h
  subst h
  exact ends (Weak.refl _) rfl ⟨rfl, trivial⟩
def laws_heldPacketS_res (r : Int) : AV := .sv (.int .i64 r)
def laws_heldPacketS_obs (r : Int) : Objs := []
theorem laws_heldPacketS_ac {p0 : (List Packet)} {p1 : Int} {r : Int} (h : laws_heldPacketS p0 p1 = some r) : AC Try.prog 60 [.sv (cPacket.sv p0), .sv (.int .i64 p1)] [] (laws_heldPacketS_res r) (laws_heldPacketS_obs r) := by
  refine ac_of_body hT Try.func60 rfl fun C hC => ?_
  unfold laws_heldPacketS at h
  refine s_reg ?_
  refine v_op hT hC rfl rfl rfl rfl trivial ?_
  refine Vc.nil ?_
  refine s_in ?_
  refine s_reg ?_
  refine v_op hT hC rfl rfl rfl rfl trivial ?_
  refine Vc.nil ?_
  refine live [0, 1, 5] [] (s' := [_, _, _]) (o' := []) rfl rfl ?_
  obtain ⟨o8, hl, h⟩ := bnd_some h
  refine s_loopR (fun v3 => ([(1, .sv (.int .i64 v3.1)), (5, .sv (.int .i64 v3.2))], [])) (fun v6 => ([(1, .sv (.int .i64 v6)), (0, .any), (5, .any)], [])) (fun r => EndsA C T Try.f60.results.toList (laws_heldPacketS_res r) (laws_heldPacketS_obs r)) hl ?_ ?_ ?_ ?_
  · try dsimp only
    apply w_conv hC []
    · repeat' first | exact CO.nil | apply CO.gone | apply CO.row rfl rfl | apply CO.box rfl rfl | decide
    · rfl
    · decide
    · rfl
  · intro v3 s hs
    have h := hs
    unfold laws_heldPacketS_l2 at h
    refine s_in ?_
    refine s_reg ?_
    iterate 4 refine v_op hT hC rfl rfl rfl rfl trivial ?_
    refine Vc.nil ?_
    rcases sel_some h with ⟨hb11, h⟩ | ⟨hb11, h⟩
    · refine s_true rfl hb11 ?_
      refine aw_skip ?_
      refine t_norm ?_
      refine s_in ?_
      refine s_block ?_
      refine s_in ?_
      refine s_reg ?_
      iterate 2 refine v_op hT hC rfl rfl rfl rfl trivial ?_
      obtain ⟨hq, h⟩ := req_some h
      refine v_op hT hC rfl rfl rfl rfl hq ?_
      iterate 4 refine v_op hT hC rfl rfl rfl rfl trivial ?_
      refine Vc.nil ?_
      rcases sel_some h with ⟨hb12, h⟩ | ⟨hb12, h⟩
      · refine s_true rfl hb12 ?_
        refine s_reg ?_
        refine v_op hT hC rfl rfl rfl rfl trivial ?_
        refine Vc.nil ?_
        refine aw_ret ?_
        refine t_ret ?_
        refine b_ret ?_
        refine t_ret ?_
        injection h with h
        subst h
        refine r_ret ?_
        refine o_ret ?_
        exact ends (Weak.refl _) rfl trivial
      · refine s_false rfl hb12 ?_
        refine aw_skip ?_
        refine t_norm ?_
        refine s_reg ?_
        iterate 3 refine v_op hT hC rfl rfl rfl rfl trivial ?_
        refine Vc.nil ?_
        refine s_in ?_
        refine s_reg ?_
        iterate 2 refine v_op hT hC rfl rfl rfl rfl trivial ?_
        obtain ⟨hq, h⟩ := req_some h
        refine v_op hT hC rfl rfl rfl rfl hq ?_
        iterate 3 refine v_op hT hC rfl rfl rfl rfl trivial ?_
        obtain ⟨hq, h⟩ := req_some h
        refine v_op hT hC rfl rfl rfl rfl hq ?_
        iterate 2 refine v_op hT hC rfl rfl rfl rfl trivial ?_
        refine Vc.nil ?_
        rcases sel_some h with ⟨hb13, h⟩ | ⟨hb13, h⟩
        · refine s_true rfl hb13 ?_
          refine s_reg ?_
          refine v_op hT hC rfl rfl rfl rfl trivial ?_
          refine Vc.nil ?_
          refine aw_ret ?_
          refine t_ret ?_
          refine b_ret ?_
          refine t_ret ?_
          injection h with h
          subst h
          refine r_ret ?_
          refine o_ret ?_
          exact ends (Weak.refl _) rfl trivial
        · refine s_false rfl hb13 ?_
          refine aw_skip ?_
          refine t_norm ?_
          refine s_reg ?_
          iterate 3 refine v_op hT hC rfl rfl rfl rfl trivial ?_
          refine Vc.nil ?_
          refine s_in ?_
          refine s_reg ?_
          iterate 2 refine v_op hT hC rfl rfl rfl rfl trivial ?_
          obtain ⟨hq, h⟩ := req_some h
          refine v_op hT hC rfl rfl rfl rfl hq ?_
          iterate 3 refine v_op hT hC rfl rfl rfl rfl trivial ?_
          obtain ⟨hq, h⟩ := req_some h
          refine v_op hT hC rfl rfl rfl rfl hq ?_
          iterate 2 refine v_op hT hC rfl rfl rfl rfl trivial ?_
          refine Vc.nil ?_
          rcases sel_some h with ⟨hb14, h⟩ | ⟨hb14, h⟩
          · refine s_true rfl hb14 ?_
            refine s_reg ?_
            refine v_op hT hC rfl rfl rfl rfl trivial ?_
            refine Vc.nil ?_
            refine aw_ret ?_
            refine t_ret ?_
            refine b_ret ?_
            refine t_ret ?_
            injection h with h
            subst h
            refine r_ret ?_
            refine o_ret ?_
            exact ends (Weak.refl _) rfl trivial
          · refine s_false rfl hb14 ?_
            refine aw_skip ?_
            refine t_norm ?_
            refine s_reg ?_
            iterate 3 refine v_op hT hC rfl rfl rfl rfl trivial ?_
            refine Vc.nil ?_
            refine s_in ?_
            refine s_draw hm ?_
            iterate 2 refine v_op hT hC rfl rfl rfl rfl trivial ?_
            obtain ⟨hq, h⟩ := req_some h
            refine v_op hT hC rfl rfl rfl rfl hq ?_
            iterate 3 refine v_op hT hC rfl rfl rfl rfl trivial ?_
            obtain ⟨q7, hq, h⟩ := bnd_some h
            refine v_call hC [] rfl rfl rfl rfl Try.call131 (laws_markText_ac hq) rfl (by decide) trivial rfl (.inl rfl) rfl ?_
            refine v_op hT hC rfl rfl rfl rfl trivial ?_
            refine Vc.nil ⟨by kernel_rfl, ?_⟩
            rcases sel_some h with ⟨hb15, h⟩ | ⟨hb15, h⟩
            · refine s_true rfl hb15 ?_
              refine s_reg ?_
              refine v_op hT hC rfl rfl rfl rfl trivial ?_
              refine Vc.nil ?_
              refine aw_ret ?_
              refine t_ret ?_
              refine b_ret ?_
              refine t_ret ?_
              injection h with h
              subst h
              refine r_ret ?_
              refine o_ret ?_
              exact ends (Weak.refl _) rfl trivial
            · refine s_false rfl hb15 ?_
              refine aw_skip ?_
              refine t_norm ?_
              refine aw_region ?_
              iterate 3 refine v_op hT hC rfl rfl rfl rfl trivial ?_
              refine Vc.nil ?_
              refine b_norm ?_
              refine t_norm ?_
              refine aw_region ?_
              iterate 3 refine v_op hT hC rfl rfl rfl rfl trivial ?_
              refine Vc.nil ?_
              injection h with h
              subst h
              refine r_go ?_
              try dsimp only
              apply w_conv hC []
              · repeat' first | exact CO.nil | apply CO.gone | apply CO.row rfl rfl | apply CO.box rfl rfl | decide
              · rfl
              · decide
              · rfl
    · refine s_false rfl hb11 ?_
      refine aw_exit ?_
      refine t_exit ?_
      injection h with h
      subst h
      refine r_exit ?_
      refine o_both ?_
      apply w_conv hC []
      · repeat' first | exact CO.nil | apply CO.gone | apply CO.row rfl rfl | apply CO.box rfl rfl | decide
      · rfl
      · decide
      · rfl
  · intro v6 e
    subst e
    refine t_norm ?_
    refine s_reg ?_
    iterate 2 refine v_op hT hC rfl rfl rfl rfl trivial ?_
    refine Vc.nil ?_
    refine aw_ret ?_
    injection h with h
    subst h
    exact ends (Weak.refl _) rfl trivial
  · intro r' σ' e hE
    subst e
    injection h with h
    subst h
    refine t_ret ?_
    exact hE
def laws_heldQueue_res (r : Int) : AV := .sv (.int .i64 r)
def laws_heldQueue_obs (r : Int) : Objs := []
theorem laws_heldQueue_ac {p0 : Queue} {p1 : Int} {r : Int} (h : laws_heldQueue p0 p1 = some r) : AC Try.prog 59 [.agg [.sv (.bool p0.Begun), .sv (.int .i64 p0.Next), .sv (.int .i64 p0.Age), .sv (cPacket.sv p0.Held), .sv (.int .i64 p0.Late), .sv (.int .i64 p0.Far), .sv (.int .i64 p0.Twice), .sv (.int .i64 p0.Over), .sv (.int .i64 p0.Lost)], .sv (.int .i64 p1)] [] (laws_heldQueue_res r) (laws_heldQueue_obs r) := by
  refine ac_of_body hT Try.func59 rfl fun C hC => ?_
  unfold laws_heldQueue at h
  refine s_reg ?_
  iterate 2 refine v_op hT hC rfl rfl rfl rfl trivial ?_
  refine Vc.nil ?_
  refine s_reg ?_
  iterate 3 refine v_op hT hC rfl rfl rfl rfl trivial ?_
  obtain ⟨q1, hq, h⟩ := bnd_some h
  refine v_call hC [] rfl rfl rfl rfl Try.call60 (laws_heldPacketS_ac hq) rfl (by decide) trivial rfl (.inl rfl) rfl ?_
  refine v_op hT hC rfl rfl rfl rfl trivial ?_
  refine Vc.nil ?_
  refine s_in ?_
  refine s_reg ?_
  iterate 2 refine v_op hT hC rfl rfl rfl rfl trivial ?_
  refine Vc.nil ?_
  rcases sel_some h with ⟨hb1, h⟩ | ⟨hb1, h⟩
  · refine s_true rfl hb1 ?_
    refine s_reg ?_
    refine v_op hT hC rfl rfl rfl rfl trivial ?_
    refine Vc.nil ?_
    refine aw_ret ?_
    refine t_ret ?_
    injection h with h
    subst h
    exact ends (Weak.refl _) rfl trivial
  · refine s_false rfl hb1 ?_
    refine aw_skip ?_
    refine t_norm ?_
    refine s_reg ?_
    iterate 2 refine v_op hT hC rfl rfl rfl rfl trivial ?_
    refine Vc.nil ?_
    refine aw_ret ?_
    injection h with h
    subst h
    exact ends (Weak.refl _) rfl trivial
def spec_QueueHas_res (r : Bool) : AV := .sv (.bool r)
def spec_QueueHas_obs (r : Bool) : Objs := []
theorem spec_QueueHas_ac {p0 : Queue} {p1 : Int} {r : Bool} (h : spec_QueueHas p0 p1 = some r) : AC Try.prog 147 [.agg [.sv (.bool p0.Begun), .sv (.int .i64 p0.Next), .sv (.int .i64 p0.Age), .sv (cPacket.sv p0.Held), .sv (.int .i64 p0.Late), .sv (.int .i64 p0.Far), .sv (.int .i64 p0.Twice), .sv (.int .i64 p0.Over), .sv (.int .i64 p0.Lost)], .sv (.int .i64 p1)] [] (spec_QueueHas_res r) (spec_QueueHas_obs r) := by
  refine ac_of_body hT Try.func147 rfl fun C hC => ?_
  unfold spec_QueueHas at h
  refine s_reg ?_
  iterate 2 refine v_op hT hC rfl rfl rfl rfl trivial ?_
  refine Vc.nil ?_
  refine s_in ?_
  refine s_reg ?_
  refine v_op hT hC rfl rfl rfl rfl trivial ?_
  obtain ⟨q1, hq, h⟩ := bnd_some h
  refine v_call hC [] rfl rfl rfl rfl Try.call137 (spec_QueueOk_ac hq) rfl (by decide) trivial rfl (.inl rfl) rfl ?_
  refine v_op hT hC rfl rfl rfl rfl trivial ?_
  refine Vc.nil ?_
  rcases sel_some h with ⟨hb1, h⟩ | ⟨hb1, h⟩
  · refine s_true rfl hb1 ?_
    refine s_reg ?_
    refine v_op hT hC rfl rfl rfl rfl trivial ?_
    refine Vc.nil ?_
    refine aw_ret ?_
    refine t_ret ?_
    injection h with h
    subst h
    exact ends (Weak.refl _) rfl trivial
  · refine s_false rfl hb1 ?_
    refine aw_skip ?_
    refine t_norm ?_
    refine s_in ?_
    refine s_reg ?_
    refine v_op hT hC rfl rfl rfl rfl trivial ?_
    refine Vc.nil ?_
    refine live [1, 2, 5] [32] (s' := [_, _, _]) (o' := [_]) rfl rfl ?_
    obtain ⟨o6, hl, h⟩ := bnd_some h
    refine s_loopR (fun v3 => ([(5, .sv (.int .i64 v3))], [])) (fun v5 => ([(1, .any), (2, .any), (5, .any)], [(32, none)])) (fun r => EndsA C T Try.f147.results.toList (spec_QueueHas_res r) (spec_QueueHas_obs r)) hl ?_ ?_ ?_ ?_
    · apply w_conv hC []
      · repeat' first | exact CO.nil | apply CO.gone | apply CO.row rfl rfl | apply CO.box rfl rfl | decide
      · rfl
      · decide
      · rfl
    · intro v3 s hs
      have h := hs
      unfold spec_QueueHas_l2 at h
      refine s_in ?_
      refine s_reg ?_
      iterate 5 refine v_op hT hC rfl rfl rfl rfl trivial ?_
      refine Vc.nil ?_
      rcases sel_some h with ⟨hb6, h⟩ | ⟨hb6, h⟩
      · refine s_true rfl hb6 ?_
        refine aw_skip ?_
        refine t_norm ?_
        refine s_in ?_
        refine s_block ?_
        refine s_reg ?_
        iterate 3 refine v_op hT hC rfl rfl rfl rfl trivial ?_
        obtain ⟨hq, h⟩ := req_some h
        refine v_op hT hC rfl rfl rfl rfl hq ?_
        iterate 4 refine v_op hT hC rfl rfl rfl rfl trivial ?_
        refine Vc.nil ?_
        rcases sel_some h with ⟨hb7, h⟩ | ⟨hb7, h⟩
        · refine s_true rfl hb7 ?_
          refine s_reg ?_
          refine v_op hT hC rfl rfl rfl rfl trivial ?_
          refine Vc.nil ?_
          refine aw_ret ?_
          refine b_ret ?_
          refine t_ret ?_
          injection h with h
          subst h
          refine r_ret ?_
          refine o_ret ?_
          exact ends (Weak.refl _) rfl trivial
        · refine s_false rfl hb7 ?_
          refine aw_skip ?_
          refine b_norm ?_
          refine t_norm ?_
          refine aw_region ?_
          iterate 3 refine v_op hT hC rfl rfl rfl rfl trivial ?_
          refine Vc.nil ?_
          injection h with h
          subst h
          refine r_go ?_
          apply w_conv hC []
          · repeat' first | exact CO.nil | apply CO.gone | apply CO.row rfl rfl | apply CO.box rfl rfl | decide
          · rfl
          · decide
          · rfl
      · refine s_false rfl hb6 ?_
        refine aw_exit ?_
        refine t_exit ?_
        injection h with h
        subst h
        refine r_exit ?_
        refine o_both ?_
        apply w_conv hC []
        · repeat' first | exact CO.nil | apply CO.gone | apply CO.row rfl rfl | apply CO.box rfl rfl | decide
        · rfl
        · decide
        · rfl
    · intro v5 e
      subst e
      refine t_norm ?_
      refine s_reg ?_
      refine v_op hT hC rfl rfl rfl rfl trivial ?_
      refine Vc.nil ?_
      refine aw_ret ?_
      injection h with h
      subst h
      exact ends (Weak.refl _) rfl trivial
    · intro r' σ' e hE
      subst e
      injection h with h
      subst h
      refine t_ret ?_
      exact hE
def spec_l23Put_res (r : Queue) : AV := .agg [.sv (.bool r.Begun), .sv (.int .i64 r.Next), .sv (.int .i64 r.Age), .own 16, .sv (.int .i64 r.Late), .sv (.int .i64 r.Far), .sv (.int .i64 r.Twice), .sv (.int .i64 r.Over), .sv (.int .i64 r.Lost)]
def spec_l23Put_obs (r : Queue) : Objs := [(16, .row cPacket r.Held)]
theorem spec_l23Put_ac {p0 : Queue} {p1 : Packet} {r : Queue} (h : spec_l23Put p0 p1 = some r) : AC Try.prog 148 [.agg [.sv (.bool p0.Begun), .sv (.int .i64 p0.Next), .sv (.int .i64 p0.Age), .sv (cPacket.sv p0.Held), .sv (.int .i64 p0.Late), .sv (.int .i64 p0.Far), .sv (.int .i64 p0.Twice), .sv (.int .i64 p0.Over), .sv (.int .i64 p0.Lost)], .agg [.sv (.int .i64 p1.Seq), .sv (.bool p1.First), .sv (.bool p1.Last), .sv (.str p1.Bytes)]] [] (spec_l23Put_res r) (spec_l23Put_obs r) := by
  refine ac_of_body hT Try.func148 rfl fun C hC => ?_
  unfold spec_l23Put at h
  refine s_reg ?_
  iterate 3 refine v_op hT hC rfl rfl rfl rfl trivial ?_
  refine Vc.nil ?_
  refine s_reg ?_
  iterate 4 refine v_op hT hC rfl rfl rfl rfl trivial ?_
  obtain ⟨q1, hq, h⟩ := bnd_some h
  refine v_call hC [] rfl rfl rfl rfl Try.call146 (spec_SeqGap_ac hq) rfl (by decide) trivial rfl (.inl rfl) rfl ?_
  refine v_op hT hC rfl rfl rfl rfl trivial ?_
  refine Vc.nil ?_
  refine s_reg ?_
  iterate 2 refine v_op hT hC rfl rfl rfl rfl trivial ?_
  refine Vc.nil ?_
  refine s_reg ?_
  refine v_op hT hC rfl rfl rfl rfl trivial ?_
  refine Vc.nil ?_
  refine s_in ?_
  refine s_reg ?_
  refine v_op hT hC rfl rfl rfl rfl trivial ?_
  refine Vc.nil ?_
  refine live [2, 3, 4, 5, 6, 7, 8] [32, 48, 64, 224] (s' := [_, _, _, _, _, _, _]) (o' := [_, _, _, _]) rfl rfl ?_
  obtain ⟨v10, hl, h⟩ := bnd_some h
  refine s_loop (fun v5 => ([(7, .sv (.bool v5.1)), (8, .sv (.int .i64 v5.2.1))], [(224, some (.row cPacket v5.2.2))])) (fun v10 => ([(7, .sv (.bool v10.1)), (5, .any), (8, .any)], [(224, some (.row cPacket v10.2))])) hl ?_ ?_ ?_
  · try dsimp only
    apply w_conv hC []
    · repeat' first | exact CO.nil | apply CO.gone | apply CO.row rfl rfl | apply CO.box rfl rfl | decide
    · rfl
    · decide
    · rfl
  · intro v5 s hs
    have h := hs
    unfold spec_l23Put_l2 at h
    refine s_in ?_
    refine s_reg ?_
    iterate 5 refine v_op hT hC rfl rfl rfl rfl trivial ?_
    refine Vc.nil ?_
    rcases sel_some h with ⟨hb6, h⟩ | ⟨hb6, h⟩
    · refine s_true rfl hb6 ?_
      refine aw_skip ?_
      refine t_norm ?_
      refine s_in ?_
      refine s_block ?_
      refine live [2, 3, 4, 5, 6, 7, 8] [32, 48, 64, 224] (s' := [_, _, _, _, _, _, _]) (o' := [_, _, _, _]) rfl rfl ?_
      obtain ⟨v11, h1, h⟩ := bnd_some h
      refine aw_to ([(7, .sv (.bool v11.1))], [(224, some (.row cPacket v11.2))]) ?_ ?_
      · have h := h1
        refine live [2, 3, 4, 5, 6, 7, 8] [32, 48, 64, 224] (s' := [_, _, _, _, _, _, _]) (o' := [_, _, _, _]) rfl rfl ?_
        obtain ⟨v12, h1, h⟩ := bnd_some h
        refine aw_to ([(36, .sv (.bool v12))], []) ?_ ?_
        · have h := h1
          refine aw_draw hm ?_
          iterate 3 refine v_op hT hC rfl rfl rfl rfl trivial ?_
          rcases sel_some h with ⟨hb7, h⟩ | ⟨hb7, h⟩
          · refine v_off hC rfl rfl rfl rfl (congrArg Bool.not hb7) rfl rfl ?_
            refine v_off hC rfl rfl rfl rfl (congrArg Bool.not hb7) rfl rfl ?_
            refine v_off hC rfl rfl rfl rfl (congrArg Bool.not hb7) rfl rfl ?_
            refine v_off hC rfl rfl rfl rfl (congrArg Bool.not hb7) rfl rfl ?_
            refine v_off hC rfl rfl rfl rfl (congrArg Bool.not hb7) rfl rfl ?_
            refine v_off hC rfl rfl rfl rfl (congrArg Bool.not hb7) rfl rfl ?_
            refine v_off hC rfl rfl rfl rfl (congrArg Bool.not hb7) rfl rfl ?_
            refine v_off hC rfl rfl rfl rfl (congrArg Bool.not hb7) rfl rfl ?_
            refine v_off hC rfl rfl rfl rfl (congrArg Bool.not hb7) rfl rfl ?_
            refine v_off hC rfl rfl rfl rfl (congrArg Bool.not hb7) rfl rfl ?_
            refine v_off hC rfl rfl rfl rfl (congrArg Bool.not hb7) rfl rfl ?_
            refine v_pick hC rfl rfl rfl (b := false) (congrArg Bool.not hb7) rfl rfl rfl trivial ?_
            refine Vc.nil ⟨by kernel_rfl, ?_⟩
            injection h with h
            subst h
            refine m_norm ?_
            apply w_conv hC []
            · repeat' first | exact CO.nil | apply CO.gone | apply CO.row rfl rfl | apply CO.box rfl rfl | decide
            · rfl
            · decide
            · rfl
          · iterate 5 refine v_on hT hC rfl rfl rfl rfl (congrArg Bool.not hb7) rfl rfl rfl trivial ?_
            obtain ⟨hq, h⟩ := req_some h
            refine v_on hT hC rfl rfl rfl rfl (congrArg Bool.not hb7) rfl rfl rfl hq ?_
            iterate 2 refine v_on hT hC rfl rfl rfl rfl (congrArg Bool.not hb7) rfl rfl rfl trivial ?_
            obtain ⟨q13, hq, h⟩ := bnd_some h
            refine v_call_on hC [] rfl rfl rfl rfl (congrArg Bool.not hb7) rfl rfl rfl Try.call146 (spec_SeqGap_ac hq) rfl (by decide) trivial rfl (.inl rfl) rfl ?_
            iterate 2 refine v_on hT hC rfl rfl rfl rfl (congrArg Bool.not hb7) rfl rfl rfl trivial ?_
            refine v_pick hC rfl rfl rfl (b := true) (congrArg Bool.not hb7) rfl rfl rfl trivial ?_
            refine Vc.nil ⟨by kernel_rfl, ?_⟩
            injection h with h
            subst h
            refine m_norm ?_
            apply w_conv hC []
            · repeat' first | exact CO.nil | apply CO.gone | apply CO.row rfl rfl | apply CO.box rfl rfl | decide
            · rfl
            · decide
            · rfl
        rcases sel_some h with ⟨hb8, h⟩ | ⟨hb8, h⟩
        · refine s_true rfl hb8 ?_
          refine s_reg ?_
          iterate 3 refine v_op hT hC rfl rfl rfl rfl trivial ?_
          obtain ⟨hq, h⟩ := req_some h
          refine v_op hT hC rfl rfl rfl rfl ⟨fun _ _ => rfl, by rw [cPacket_id]; exact hq⟩ ?_
          rw [cPacket_id]
          refine v_op hT hC rfl rfl rfl rfl trivial ?_
          refine Vc.nil ?_
          refine aw_region ?_
          refine v_op hT hC rfl rfl rfl rfl trivial ?_
          refine Vc.nil ?_
          injection h with h
          subst h
          refine m_norm ?_
          try dsimp only
          apply w_conv hC [(224, 640)]
          · repeat' first | exact CO.nil | apply CO.gone | apply CO.row rfl rfl | apply CO.box rfl rfl | decide
          · rfl
          · decide
          · rfl
        · refine s_false rfl hb8 ?_
          refine aw_skip ?_
          injection h with h
          subst h
          refine m_norm ?_
          try dsimp only
          apply w_conv hC []
          · repeat' first | exact CO.nil | apply CO.gone | apply CO.row rfl rfl | apply CO.box rfl rfl | decide
          · rfl
          · decide
          · rfl
      refine aw_region ?_
      iterate 4 refine v_op hT hC rfl rfl rfl rfl trivial ?_
      obtain ⟨hq, h⟩ := req_some h
      refine v_op hT hC rfl rfl rfl rfl hq ?_
      iterate 2 refine v_op hT hC rfl rfl rfl rfl trivial ?_
      obtain ⟨hq, h⟩ := req_some h
      refine v_op hT hC rfl rfl rfl rfl ⟨fun _ _ => rfl, by rw [cPacket_id]; exact hq⟩ ?_
      rw [cPacket_id]
      refine v_op hT hC rfl rfl rfl rfl trivial ?_
      refine Vc.nil ?_
      refine b_norm ?_
      refine t_norm ?_
      refine aw_region ?_
      iterate 3 refine v_op hT hC rfl rfl rfl rfl trivial ?_
      refine Vc.nil ?_
      injection h with h
      subst h
      refine r_go ?_
      try dsimp only
      apply w_conv hC [(224, 768)]
      · repeat' first | exact CO.nil | apply CO.gone | apply CO.row rfl rfl | apply CO.box rfl rfl | decide
      · rfl
      · decide
      · rfl
    · refine s_false rfl hb6 ?_
      refine aw_exit ?_
      refine t_exit ?_
      injection h with h
      subst h
      refine r_exit ?_
      refine o_out ?_
      try dsimp only
      apply w_conv hC []
      · repeat' first | exact CO.nil | apply CO.gone | apply CO.row rfl rfl | apply CO.box rfl rfl | decide
      · rfl
      · decide
      · rfl
  refine t_norm ?_
  refine live [2, 3, 4, 6, 7] [32, 48, 64, 224] (s' := [_, _, _, _, _]) (o' := [_, _, _, _]) rfl rfl ?_
  obtain ⟨v15, h1, h⟩ := bnd_some h
  refine aw_to ([(3, .any), (7, .any)], [(224, some (.row cPacket v15)), (48, none)]) ?_ ?_
  · have h := h1
    refine s_reg ?_
    iterate 2 refine v_op hT hC rfl rfl rfl rfl trivial ?_
    refine Vc.nil ?_
    rcases sel_some h with ⟨hb9, h⟩ | ⟨hb9, h⟩
    · refine s_true rfl hb9 ?_
      refine aw_region ?_
      iterate 3 refine v_op hT hC rfl rfl rfl rfl trivial ?_
      obtain ⟨hq, h⟩ := req_some h
      refine v_op hT hC rfl rfl rfl rfl ⟨fun _ _ => rfl, by rw [cPacket_id]; exact hq⟩ ?_
      rw [cPacket_id]
      refine v_op hT hC rfl rfl rfl rfl trivial ?_
      refine Vc.nil ?_
      injection h with h
      subst h
      refine m_norm ?_
      apply w_conv hC [(224, 864)]
      · repeat' first | exact CO.nil | apply CO.gone | apply CO.row rfl rfl | apply CO.box rfl rfl | decide
      · rfl
      · decide
      · rfl
    · refine s_false rfl hb9 ?_
      refine aw_skip ?_
      injection h with h
      subst h
      refine m_norm ?_
      apply w_conv hC []
      · repeat' first | exact CO.nil | apply CO.gone | apply CO.row rfl rfl | apply CO.box rfl rfl | decide
      · rfl
      · decide
      · rfl
  refine s_reg ?_
  iterate 3 refine v_op hT hC rfl rfl rfl rfl trivial ?_
  refine Vc.nil ?_
  refine s_reg ?_
  iterate 2 refine v_op hT hC rfl rfl rfl rfl trivial ?_
  refine Vc.nil ?_
  refine aw_ret ?_
  injection h with h
  subst h
  refine ends (τ := ⟨[(4, .ptr 2000000 0)], [(16, some (.row cPacket v15)), (2000000, some (.box [.sv (.bool p0.Begun), .sv (.int .i64 p0.Next), .sv (.int .i64 p0.Age), .own 16, .sv (.int .i64 p0.Late), .sv (.int .i64 p0.Far), .sv (.int .i64 p0.Twice), .sv (.int .i64 p0.Over), .sv (.int .i64 p0.Lost)]))]⟩) ?_ rfl ⟨rfl, trivial⟩
  apply w_conv hC [(16, 224), (2000000, 64)]
  · repeat' first | exact CO.nil | apply CO.gone | apply CO.row rfl rfl | apply CO.box rfl rfl | decide
  · rfl
  · decide
  · rfl
def spec_QueueIn_res (r : (Queue × Int)) : AV := .tup [.agg [.sv (.bool r.1.Begun), .sv (.int .i64 r.1.Next), .sv (.int .i64 r.1.Age), .own 16, .sv (.int .i64 r.1.Late), .sv (.int .i64 r.1.Far), .sv (.int .i64 r.1.Twice), .sv (.int .i64 r.1.Over), .sv (.int .i64 r.1.Lost)], .sv (.int .i64 r.2)]
def spec_QueueIn_obs (r : (Queue × Int)) : Objs := [(16, .row cPacket r.1.Held)]
theorem spec_QueueIn_ac {p0 : Queue} {p1 : Packet} {r : (Queue × Int)} (h : spec_QueueIn p0 p1 = some r) : AC Try.prog 64 [.agg [.sv (.bool p0.Begun), .sv (.int .i64 p0.Next), .sv (.int .i64 p0.Age), .sv (cPacket.sv p0.Held), .sv (.int .i64 p0.Late), .sv (.int .i64 p0.Far), .sv (.int .i64 p0.Twice), .sv (.int .i64 p0.Over), .sv (.int .i64 p0.Lost)], .agg [.sv (.int .i64 p1.Seq), .sv (.bool p1.First), .sv (.bool p1.Last), .sv (.str p1.Bytes)]] [] (spec_QueueIn_res r) (spec_QueueIn_obs r) := by
  refine ac_of_body hT Try.func64 rfl fun C hC => ?_
  unfold spec_QueueIn at h
  refine s_reg ?_
  iterate 4 refine v_op hT hC rfl rfl rfl rfl trivial ?_
  refine Vc.nil ?_
  refine s_reg ?_
  refine v_op hT hC rfl rfl rfl rfl trivial ?_
  obtain ⟨q1, hq, h⟩ := bnd_some h
  refine v_call hC [(16, 144)] rfl rfl rfl rfl Try.call136 (spec_l23Copy_ac hq) rfl (by decide) trivial rfl (.inl rfl) rfl ?_
  refine v_op hT hC rfl rfl rfl rfl trivial ?_
  refine Vc.nil ?_
  refine s_in ?_
  refine s_reg ?_
  refine v_op hT hC rfl rfl rfl rfl trivial ?_
  obtain ⟨q2, hq, h⟩ := bnd_some h
  refine v_call hC [] rfl rfl rfl rfl Try.call137 (spec_QueueOk_ac hq) rfl (by decide) trivial rfl (.inr ⟨rfl, trivial⟩) rfl ?_
  refine v_op hT hC rfl rfl rfl rfl trivial ?_
  refine Vc.nil ?_
  rcases sel_some h with ⟨hb1, h⟩ | ⟨hb1, h⟩
  · refine s_true rfl hb1 ?_
    refine s_reg ?_
    iterate 3 refine v_op hT hC rfl rfl rfl rfl trivial ?_
    refine Vc.nil ?_
    refine aw_ret ?_
    refine t_ret ?_
    injection h with h
    subst h
    refine ends (τ := ⟨[(4, .ptr 2000000 0), (5, .sv (.int .i64 1))], [(16, some (.row cPacket q1.Held)), (2000000, some (.box [.sv (.bool q1.Begun), .sv (.int .i64 q1.Next), .sv (.int .i64 q1.Age), .own 16, .sv (.int .i64 q1.Late), .sv (.int .i64 q1.Far), .sv (.int .i64 q1.Twice), .sv (.int .i64 q1.Over), .sv (.int .i64 q1.Lost)]))]⟩) ?_ rfl ⟨rfl, trivial⟩
    apply w_conv hC [(16, 144), (2000000, 64)]
    · repeat' first | exact CO.nil | apply CO.gone | apply CO.row rfl rfl | apply CO.box rfl rfl | decide
    · rfl
    · decide
    · rfl
  · refine s_false rfl hb1 ?_
    refine aw_skip ?_
    refine t_norm ?_
    refine s_in ?_
    refine s_reg ?_
    refine v_op hT hC rfl rfl rfl rfl trivial ?_
    obtain ⟨q3, hq, h⟩ := bnd_some h
    refine v_call hC [] rfl rfl rfl rfl Try.call124 (spec_PacketOk_ac hq) rfl (by decide) trivial rfl (.inl rfl) rfl ?_
    refine v_op hT hC rfl rfl rfl rfl trivial ?_
    refine Vc.nil ?_
    rcases sel_some h with ⟨hb2, h⟩ | ⟨hb2, h⟩
    · refine s_true rfl hb2 ?_
      refine s_reg ?_
      iterate 3 refine v_op hT hC rfl rfl rfl rfl trivial ?_
      refine Vc.nil ?_
      refine aw_ret ?_
      refine t_ret ?_
      injection h with h
      subst h
      refine ends (τ := ⟨[(4, .ptr 2000000 0), (5, .sv (.int .i64 2))], [(16, some (.row cPacket q1.Held)), (2000000, some (.box [.sv (.bool q1.Begun), .sv (.int .i64 q1.Next), .sv (.int .i64 q1.Age), .own 16, .sv (.int .i64 q1.Late), .sv (.int .i64 q1.Far), .sv (.int .i64 q1.Twice), .sv (.int .i64 q1.Over), .sv (.int .i64 q1.Lost)]))]⟩) ?_ rfl ⟨rfl, trivial⟩
      apply w_conv hC [(16, 144), (2000000, 64)]
      · repeat' first | exact CO.nil | apply CO.gone | apply CO.row rfl rfl | apply CO.box rfl rfl | decide
      · rfl
      · decide
      · rfl
    · refine s_false rfl hb2 ?_
      refine aw_skip ?_
      refine t_norm ?_
      refine s_in ?_
      refine s_reg ?_
      iterate 3 refine v_op hT hC rfl rfl rfl rfl trivial ?_
      refine Vc.nil ?_
      rcases sel_some h with ⟨hb3, h⟩ | ⟨hb3, h⟩
      · refine s_true rfl hb3 ?_
        refine s_reg ?_
        iterate 7 refine v_op hT hC rfl rfl rfl rfl trivial ?_
        refine Vc.nil ?_
        refine aw_ret ?_
        refine t_ret ?_
        injection h with h
        subst h
        refine ends (τ := ⟨[(4, .ptr 2000000 0), (5, .sv (.int .i64 0))], [(16, some (.row cPacket ([p1]))), (2000000, some (.box [.sv (.bool true), .sv (.int .i64 p1.Seq), .sv (.int .i64 0), .own 16, .sv (.int .i64 0), .sv (.int .i64 0), .sv (.int .i64 0), .sv (.int .i64 0), .sv (.int .i64 0)]))]⟩) ?_ rfl ⟨rfl, trivial⟩
        apply w_conv hC [(16, 384), (2000000, 64)]
        · repeat' first | exact CO.nil | apply CO.gone | apply CO.row rfl rfl | apply CO.box rfl rfl | decide
        · rfl
        · decide
        · rfl
      · refine s_false rfl hb3 ?_
        refine aw_skip ?_
        refine t_norm ?_
        refine s_reg ?_
        iterate 4 refine v_op hT hC rfl rfl rfl rfl trivial ?_
        obtain ⟨q4, hq, h⟩ := bnd_some h
        refine v_call hC [] rfl rfl rfl rfl Try.call146 (spec_SeqGap_ac hq) rfl (by decide) trivial rfl (.inl rfl) rfl ?_
        refine v_op hT hC rfl rfl rfl rfl trivial ?_
        refine Vc.nil ?_
        refine s_in ?_
        refine live [2, 3, 4, 6] [32, 48, 64, 144] (s' := [_, _, _, _]) (o' := [_, _, _, _]) rfl rfl ?_
        obtain ⟨v5, h1, h⟩ := bnd_some h
        refine aw_to ([(36, .sv (.bool v5))], []) ?_ ?_
        · have h := h1
          refine aw_region ?_
          iterate 3 refine v_op hT hC rfl rfl rfl rfl trivial ?_
          rcases sel_some h with ⟨hb4, h⟩ | ⟨hb4, h⟩
          · refine v_off hC rfl rfl rfl rfl hb4 rfl rfl ?_
            refine v_off hC rfl rfl rfl rfl hb4 rfl rfl ?_
            refine v_pick hC rfl rfl rfl (b := true) hb4 rfl rfl rfl trivial ?_
            refine Vc.nil ?_
            injection h with h
            subst h
            refine m_norm ?_
            apply w_conv hC []
            · repeat' first | exact CO.nil | apply CO.gone | apply CO.row rfl rfl | apply CO.box rfl rfl | decide
            · rfl
            · decide
            · rfl
          · iterate 2 refine v_on hT hC rfl rfl rfl rfl hb4 rfl rfl rfl trivial ?_
            refine v_pick hC rfl rfl rfl (b := false) hb4 rfl rfl rfl trivial ?_
            refine Vc.nil ?_
            injection h with h
            subst h
            refine m_norm ?_
            apply w_conv hC []
            · repeat' first | exact CO.nil | apply CO.gone | apply CO.row rfl rfl | apply CO.box rfl rfl | decide
            · rfl
            · decide
            · rfl
        rcases sel_some h with ⟨hb5, h⟩ | ⟨hb5, h⟩
        · refine s_true rfl hb5 ?_
          refine s_reg ?_
          iterate 2 refine v_op hT hC rfl rfl rfl rfl trivial ?_
          obtain ⟨q6, hq, h⟩ := bnd_some h
          refine v_call hC [] rfl rfl rfl rfl Try.call139 (spec_l23More_ac hq) rfl (by decide) trivial rfl (.inl rfl) rfl ?_
          iterate 2 refine v_op hT hC rfl rfl rfl rfl trivial ?_
          refine Vc.nil ?_
          refine s_reg ?_
          iterate 4 refine v_op hT hC rfl rfl rfl rfl trivial ?_
          refine Vc.nil ?_
          refine s_reg ?_
          iterate 4 refine v_op hT hC rfl rfl rfl rfl trivial ?_
          refine Vc.nil ?_
          refine s_reg ?_
          iterate 2 refine v_op hT hC rfl rfl rfl rfl trivial ?_
          refine Vc.nil ?_
          refine s_reg ?_
          iterate 3 refine v_op hT hC rfl rfl rfl rfl trivial ?_
          refine Vc.nil ?_
          refine aw_ret ?_
          refine t_ret ?_
          injection h with h
          subst h
          refine ends (τ := ⟨[(4, .ptr 2000000 0), (5, .sv (.int .i64 4))], [(16, some (.row cPacket ([p1]))), (2000000, some (.box [.sv (.bool q1.Begun), .sv (.int .i64 p1.Seq), .sv (.int .i64 0), .own 16, .sv (.int .i64 q1.Late), .sv (.int .i64 q6), .sv (.int .i64 q1.Twice), .sv (.int .i64 q1.Over), .sv (.int .i64 q1.Lost)]))]⟩) ?_ rfl ⟨rfl, trivial⟩
          apply w_conv hC [(16, 672), (2000000, 64)]
          · repeat' first | exact CO.nil | apply CO.gone | apply CO.row rfl rfl | apply CO.box rfl rfl | decide
          · rfl
          · decide
          · rfl
        · refine s_false rfl hb5 ?_
          refine aw_skip ?_
          refine t_norm ?_
          refine s_in ?_
          refine s_reg ?_
          iterate 2 refine v_op hT hC rfl rfl rfl rfl trivial ?_
          refine Vc.nil ?_
          rcases sel_some h with ⟨hb6, h⟩ | ⟨hb6, h⟩
          · refine s_true rfl hb6 ?_
            refine s_reg ?_
            iterate 2 refine v_op hT hC rfl rfl rfl rfl trivial ?_
            obtain ⟨q7, hq, h⟩ := bnd_some h
            refine v_call hC [] rfl rfl rfl rfl Try.call139 (spec_l23More_ac hq) rfl (by decide) trivial rfl (.inl rfl) rfl ?_
            iterate 2 refine v_op hT hC rfl rfl rfl rfl trivial ?_
            refine Vc.nil ?_
            refine s_reg ?_
            iterate 3 refine v_op hT hC rfl rfl rfl rfl trivial ?_
            refine Vc.nil ?_
            refine aw_ret ?_
            refine t_ret ?_
            injection h with h
            subst h
            refine ends (τ := ⟨[(4, .ptr 2000000 0), (5, .sv (.int .i64 3))], [(16, some (.row cPacket q1.Held)), (2000000, some (.box [.sv (.bool q1.Begun), .sv (.int .i64 q1.Next), .sv (.int .i64 q1.Age), .own 16, .sv (.int .i64 q7), .sv (.int .i64 q1.Far), .sv (.int .i64 q1.Twice), .sv (.int .i64 q1.Over), .sv (.int .i64 q1.Lost)]))]⟩) ?_ rfl ⟨rfl, trivial⟩
            apply w_conv hC [(16, 144), (2000000, 64)]
            · repeat' first | exact CO.nil | apply CO.gone | apply CO.row rfl rfl | apply CO.box rfl rfl | decide
            · rfl
            · decide
            · rfl
          · refine s_false rfl hb6 ?_
            refine aw_skip ?_
            refine t_norm ?_
            refine s_in ?_
            refine s_reg ?_
            iterate 3 refine v_op hT hC rfl rfl rfl rfl trivial ?_
            obtain ⟨q8, hq, h⟩ := bnd_some h
            refine v_call hC [] rfl rfl rfl rfl Try.call147 (spec_QueueHas_ac hq) rfl (by decide) trivial rfl (.inr ⟨rfl, trivial⟩) rfl ?_
            refine Vc.nil ?_
            rcases sel_some h with ⟨hb7, h⟩ | ⟨hb7, h⟩
            · refine s_true rfl hb7 ?_
              refine s_reg ?_
              iterate 2 refine v_op hT hC rfl rfl rfl rfl trivial ?_
              obtain ⟨q9, hq, h⟩ := bnd_some h
              refine v_call hC [] rfl rfl rfl rfl Try.call139 (spec_l23More_ac hq) rfl (by decide) trivial rfl (.inl rfl) rfl ?_
              iterate 2 refine v_op hT hC rfl rfl rfl rfl trivial ?_
              refine Vc.nil ?_
              refine s_reg ?_
              iterate 3 refine v_op hT hC rfl rfl rfl rfl trivial ?_
              refine Vc.nil ?_
              refine aw_ret ?_
              refine t_ret ?_
              injection h with h
              subst h
              refine ends (τ := ⟨[(4, .ptr 2000000 0), (5, .sv (.int .i64 5))], [(16, some (.row cPacket q1.Held)), (2000000, some (.box [.sv (.bool q1.Begun), .sv (.int .i64 q1.Next), .sv (.int .i64 q1.Age), .own 16, .sv (.int .i64 q1.Late), .sv (.int .i64 q1.Far), .sv (.int .i64 q9), .sv (.int .i64 q1.Over), .sv (.int .i64 q1.Lost)]))]⟩) ?_ rfl ⟨rfl, trivial⟩
              apply w_conv hC [(16, 144), (2000000, 64)]
              · repeat' first | exact CO.nil | apply CO.gone | apply CO.row rfl rfl | apply CO.box rfl rfl | decide
              · rfl
              · decide
              · rfl
            · refine s_false rfl hb7 ?_
              refine aw_skip ?_
              refine t_norm ?_
              refine s_in ?_
              refine s_reg ?_
              iterate 4 refine v_op hT hC rfl rfl rfl rfl trivial ?_
              refine Vc.nil ?_
              rcases sel_some h with ⟨hb8, h⟩ | ⟨hb8, h⟩
              · refine s_true rfl hb8 ?_
                refine s_reg ?_
                iterate 2 refine v_op hT hC rfl rfl rfl rfl trivial ?_
                obtain ⟨q10, hq, h⟩ := bnd_some h
                refine v_call hC [(16, 1136)] rfl rfl rfl rfl Try.call148 (spec_l23Put_ac hq) rfl (by decide) trivial rfl (.inr ⟨rfl, ⟨fun _ => rfl, trivial⟩⟩) rfl ?_
                iterate 2 refine v_op hT hC rfl rfl rfl rfl trivial ?_
                refine Vc.nil ?_
                refine aw_ret ?_
                refine t_ret ?_
                injection h with h
                subst h
                refine ends (τ := ⟨[(4, .ptr 2000000 0), (5, .sv (.int .i64 0))], [(16, some (.row cPacket q10.Held)), (2000000, some (.box [.sv (.bool q10.Begun), .sv (.int .i64 q10.Next), .sv (.int .i64 q10.Age), .own 16, .sv (.int .i64 q10.Late), .sv (.int .i64 q10.Far), .sv (.int .i64 q10.Twice), .sv (.int .i64 q10.Over), .sv (.int .i64 q10.Lost)]))]⟩) ?_ rfl ⟨rfl, trivial⟩
                apply w_conv hC [(16, 1136), (2000000, 64)]
                · repeat' first | exact CO.nil | apply CO.gone | apply CO.row rfl rfl | apply CO.box rfl rfl | decide
                · rfl
                · decide
                · rfl
              · refine s_false rfl hb8 ?_
                refine aw_skip ?_
                refine t_norm ?_
                refine s_reg ?_
                refine v_op hT hC rfl rfl rfl rfl trivial ?_
                refine Vc.nil ?_
                refine s_in ?_
                refine live [2, 3, 4, 7] [32, 48, 64, 144] (s' := [_, _, _, _]) (o' := [_, _, _, _]) rfl rfl ?_
                obtain ⟨v16, hl, h⟩ := bnd_some h
                refine s_loop (fun v13 => ([(7, .sv (.int .i64 v13))], [])) (fun v16 => ([(7, .sv (.int .i64 v16))], [])) hl ?_ ?_ ?_
                · apply w_conv hC []
                  · repeat' first | exact CO.nil | apply CO.gone | apply CO.row rfl rfl | apply CO.box rfl rfl | decide
                  · rfl
                  · decide
                  · rfl
                · intro v13 s hs
                  have h := hs
                  unfold spec_QueueIn_l2 at h
                  refine s_in ?_
                  refine live [2, 3, 4, 7] [32, 48, 64, 144] (s' := [_, _, _, _]) (o' := [_, _, _, _]) rfl rfl ?_
                  obtain ⟨v17, h1, h⟩ := bnd_some h
                  refine aw_to ([(86, .sv (.bool v17))], []) ?_ ?_
                  · have h := h1
                    refine aw_region ?_
                    iterate 7 refine v_op hT hC rfl rfl rfl rfl trivial ?_
                    rcases sel_some h with ⟨hb13, h⟩ | ⟨hb13, h⟩
                    · iterate 3 refine v_on hT hC rfl rfl rfl rfl hb13 rfl rfl rfl trivial ?_
                      obtain ⟨hq, h⟩ := req_some h
                      refine v_on hT hC rfl rfl rfl rfl hb13 rfl rfl rfl hq ?_
                      refine v_on hT hC rfl rfl rfl rfl hb13 rfl rfl rfl trivial ?_
                      obtain ⟨hq, h⟩ := req_some h
                      refine v_on hT hC rfl rfl rfl rfl hb13 rfl rfl rfl hq ?_
                      refine v_on hT hC rfl rfl rfl rfl hb13 rfl rfl rfl trivial ?_
                      refine v_pick hC rfl rfl rfl (b := true) hb13 rfl rfl rfl trivial ?_
                      refine Vc.nil ?_
                      injection h with h
                      subst h
                      refine m_norm ?_
                      apply w_conv hC []
                      · repeat' first | exact CO.nil | apply CO.gone | apply CO.row rfl rfl | apply CO.box rfl rfl | decide
                      · rfl
                      · decide
                      · rfl
                    · refine v_off hC rfl rfl rfl rfl hb13 rfl rfl ?_
                      refine v_off hC rfl rfl rfl rfl hb13 rfl rfl ?_
                      refine v_off hC rfl rfl rfl rfl hb13 rfl rfl ?_
                      refine v_off hC rfl rfl rfl rfl hb13 rfl rfl ?_
                      refine v_off hC rfl rfl rfl rfl hb13 rfl rfl ?_
                      refine v_off hC rfl rfl rfl rfl hb13 rfl rfl ?_
                      refine v_off hC rfl rfl rfl rfl hb13 rfl rfl ?_
                      refine v_pick hC rfl rfl rfl (b := false) hb13 rfl rfl rfl trivial ?_
                      refine Vc.nil ?_
                      injection h with h
                      subst h
                      refine m_norm ?_
                      apply w_conv hC []
                      · repeat' first | exact CO.nil | apply CO.gone | apply CO.row rfl rfl | apply CO.box rfl rfl | decide
                      · rfl
                      · decide
                      · rfl
                  rcases sel_some h with ⟨hb14, h⟩ | ⟨hb14, h⟩
                  · refine s_true rfl hb14 ?_
                    refine aw_skip ?_
                    refine t_norm ?_
                    refine s_block ?_
                    refine aw_region ?_
                    iterate 3 refine v_op hT hC rfl rfl rfl rfl trivial ?_
                    refine Vc.nil ?_
                    refine b_norm ?_
                    injection h with h
                    subst h
                    refine r_go ?_
                    apply w_conv hC []
                    · repeat' first | exact CO.nil | apply CO.gone | apply CO.row rfl rfl | apply CO.box rfl rfl | decide
                    · rfl
                    · decide
                    · rfl
                  · refine s_false rfl hb14 ?_
                    refine aw_exit ?_
                    refine t_exit ?_
                    injection h with h
                    subst h
                    refine r_exit ?_
                    refine o_out ?_
                    apply w_conv hC []
                    · repeat' first | exact CO.nil | apply CO.gone | apply CO.row rfl rfl | apply CO.box rfl rfl | decide
                    · rfl
                    · decide
                    · rfl
                refine t_norm ?_
                refine s_reg ?_
                iterate 2 refine v_op hT hC rfl rfl rfl rfl trivial ?_
                obtain ⟨q19, hq, h⟩ := bnd_some h
                refine v_call hC [] rfl rfl rfl rfl Try.call139 (spec_l23More_ac hq) rfl (by decide) trivial rfl (.inl rfl) rfl ?_
                iterate 2 refine v_op hT hC rfl rfl rfl rfl trivial ?_
                refine Vc.nil ?_
                refine s_reg ?_
                iterate 3 refine v_op hT hC rfl rfl rfl rfl trivial ?_
                obtain ⟨hq, h⟩ := req_some h
                refine v_op hT hC rfl rfl rfl rfl hq ?_
                refine v_op hT hC rfl rfl rfl rfl trivial ?_
                obtain ⟨hq, h⟩ := req_some h
                refine v_op hT hC rfl rfl rfl rfl hq ?_
                obtain ⟨q20, hq, h⟩ := bnd_some h
                refine v_call hC [] rfl rfl rfl rfl Try.call125 (spec_SeqPlus_ac hq) rfl (by decide) trivial rfl (.inl rfl) rfl ?_
                iterate 2 refine v_op hT hC rfl rfl rfl rfl trivial ?_
                refine Vc.nil ?_
                refine s_reg ?_
                iterate 5 refine v_op hT hC rfl rfl rfl rfl trivial ?_
                obtain ⟨hq, h⟩ := req_some h
                refine v_op hT hC rfl rfl rfl rfl hq ?_
                obtain ⟨hq, h⟩ := req_some h
                refine v_op hT hC rfl rfl rfl rfl ⟨⟨hq.1, fun _ _ => rfl⟩, by rw [cPacket_id]; exact hq.2⟩ ?_
                rw [cPacket_id]
                iterate 2 refine v_op hT hC rfl rfl rfl rfl trivial ?_
                refine Vc.nil ?_
                refine s_reg ?_
                iterate 2 refine v_op hT hC rfl rfl rfl rfl trivial ?_
                refine Vc.nil ?_
                refine live [2, 3, 4] [32, 48, 64, 1712] (s' := [_, _, _]) (o' := [_, _, _, _]) rfl rfl ?_
                obtain ⟨v21, h1, h⟩ := bnd_some h
                refine aw_to ([(3, .any)], [(32, some (.box [.sv (.bool v21.1), .sv (.int .i64 v21.2.1), .sv (.int .i64 v21.2.2.1), .own 1712, .sv (.int .i64 v21.2.2.2.1), .sv (.int .i64 v21.2.2.2.2.1), .sv (.int .i64 v21.2.2.2.2.2.1), .sv (.int .i64 v21.2.2.2.2.2.2.1), .sv (.int .i64 v21.2.2.2.2.2.2.2.1)])), (1712, some (.row cPacket v21.2.2.2.2.2.2.2.2)), (48, none)]) ?_ ?_
                · have h := h1
                  refine s_reg ?_
                  iterate 4 refine v_op hT hC rfl rfl rfl rfl trivial ?_
                  obtain ⟨q22, hq, h⟩ := bnd_some h
                  refine v_call hC [] rfl rfl rfl rfl Try.call146 (spec_SeqGap_ac hq) rfl (by decide) trivial rfl (.inl rfl) rfl ?_
                  obtain ⟨q23, hq, h⟩ := bnd_some h
                  refine v_call hC [] rfl rfl rfl rfl Try.call106 (spec_l01In_ac hq) rfl (by decide) trivial rfl (.inl rfl) rfl ?_
                  refine Vc.nil ?_
                  rcases sel_some h with ⟨hb15, h⟩ | ⟨hb15, h⟩
                  · refine s_true rfl hb15 ?_
                    refine aw_region ?_
                    iterate 2 refine v_op hT hC rfl rfl rfl rfl trivial ?_
                    obtain ⟨q24, hq, h⟩ := bnd_some h
                    refine v_call hC [(16, 1888)] rfl rfl rfl rfl Try.call148 (spec_l23Put_ac hq) rfl (by decide) trivial rfl (.inr ⟨rfl, ⟨fun _ => rfl, trivial⟩⟩) rfl ?_
                    refine v_op hT hC rfl rfl rfl rfl trivial ?_
                    refine Vc.nil ?_
                    injection h with h
                    subst h
                    refine m_norm ?_
                    try dsimp only
                    apply w_conv hC [(1712, 1888)]
                    · repeat' first | exact CO.nil | apply CO.gone | apply CO.row rfl rfl | apply CO.box rfl rfl | decide
                    · rfl
                    · decide
                    · rfl
                  · refine s_false rfl hb15 ?_
                    refine aw_skip ?_
                    injection h with h
                    subst h
                    refine m_norm ?_
                    try dsimp only
                    apply w_conv hC []
                    · repeat' first | exact CO.nil | apply CO.gone | apply CO.row rfl rfl | apply CO.box rfl rfl | decide
                    · rfl
                    · decide
                    · rfl
                refine s_reg ?_
                iterate 3 refine v_op hT hC rfl rfl rfl rfl trivial ?_
                refine Vc.nil ?_
                refine aw_ret ?_
                injection h with h
                subst h
                refine ends (τ := ⟨[(4, .ptr 2000000 0), (5, .sv (.int .i64 6))], [(16, some (.row cPacket v21.2.2.2.2.2.2.2.2)), (2000000, some (.box [.sv (.bool v21.1), .sv (.int .i64 v21.2.1), .sv (.int .i64 v21.2.2.1), .own 16, .sv (.int .i64 v21.2.2.2.1), .sv (.int .i64 v21.2.2.2.2.1), .sv (.int .i64 v21.2.2.2.2.2.1), .sv (.int .i64 v21.2.2.2.2.2.2.1), .sv (.int .i64 v21.2.2.2.2.2.2.2.1)]))]⟩) ?_ rfl ⟨rfl, trivial⟩
                apply w_conv hC [(16, 1712), (2000000, 64)]
                · repeat' first | exact CO.nil | apply CO.gone | apply CO.row rfl rfl | apply CO.box rfl rfl | decide
                · rfl
                · decide
                · rfl
def impl_QueueHas_res (r : Bool) : AV := .sv (.bool r)
def impl_QueueHas_obs (r : Bool) : Objs := []
theorem impl_QueueHas_ac {p0 : Queue} {p1 : Int} {r : Bool} (h : impl_QueueHas p0 p1 = some r) : AC Try.prog 149 [.agg [.sv (.bool p0.Begun), .sv (.int .i64 p0.Next), .sv (.int .i64 p0.Age), .sv (cPacket.sv p0.Held), .sv (.int .i64 p0.Late), .sv (.int .i64 p0.Far), .sv (.int .i64 p0.Twice), .sv (.int .i64 p0.Over), .sv (.int .i64 p0.Lost)], .sv (.int .i64 p1)] [] (impl_QueueHas_res r) (impl_QueueHas_obs r) := by
  refine ac_of_body hT Try.func149 rfl fun C hC => ?_
  unfold impl_QueueHas at h
  refine s_reg ?_
  iterate 2 refine v_op hT hC rfl rfl rfl rfl trivial ?_
  refine Vc.nil ?_
  refine s_in ?_
  refine s_reg ?_
  refine v_op hT hC rfl rfl rfl rfl trivial ?_
  obtain ⟨q1, hq, h⟩ := bnd_some h
  refine v_call hC [] rfl rfl rfl rfl Try.call62 (impl_QueueOk_ac hq) rfl (by decide) trivial rfl (.inl rfl) rfl ?_
  refine v_op hT hC rfl rfl rfl rfl trivial ?_
  refine Vc.nil ?_
  rcases sel_some h with ⟨hb1, h⟩ | ⟨hb1, h⟩
  · refine s_true rfl hb1 ?_
    refine s_reg ?_
    refine v_op hT hC rfl rfl rfl rfl trivial ?_
    refine Vc.nil ?_
    refine aw_ret ?_
    refine t_ret ?_
    injection h with h
    subst h
    exact ends (Weak.refl _) rfl trivial
  · refine s_false rfl hb1 ?_
    refine aw_skip ?_
    refine t_norm ?_
    refine s_in ?_
    refine s_reg ?_
    iterate 4 refine v_op hT hC rfl rfl rfl rfl trivial ?_
    refine Vc.nil ?_
    refine live [1, 11, 12, 13] [] (s' := [_, _, _, _]) (o' := []) rfl rfl ?_
    obtain ⟨o6, hl, h⟩ := bnd_some h
    refine s_loopR (fun v3 => ([(13, .sv (.int .i64 v3))], [])) (fun v5 => ([(1, .any), (11, .any), (12, .any), (13, .any)], [])) (fun r => EndsA C T Try.f149.results.toList (impl_QueueHas_res r) (impl_QueueHas_obs r)) hl ?_ ?_ ?_ ?_
    · apply w_conv hC []
      · repeat' first | exact CO.nil | apply CO.gone | apply CO.row rfl rfl | apply CO.box rfl rfl | decide
      · rfl
      · decide
      · rfl
    · intro v3 s hs
      have h := hs
      unfold impl_QueueHas_l2 at h
      refine s_reg ?_
      refine v_op hT hC rfl rfl rfl rfl trivial ?_
      refine Vc.nil ?_
      refine s_in ?_
      rcases sel_some h with ⟨hb6, h⟩ | ⟨hb6, h⟩
      · refine s_true rfl hb6 ?_
        refine aw_skip ?_
        refine t_norm ?_
        refine s_in ?_
        refine s_block ?_
        refine s_reg ?_
        obtain ⟨hq, h⟩ := req_some h
        refine v_op hT hC rfl rfl rfl rfl hq ?_
        iterate 3 refine v_op hT hC rfl rfl rfl rfl trivial ?_
        refine Vc.nil ?_
        refine s_reg ?_
        iterate 4 refine v_op hT hC rfl rfl rfl rfl trivial ?_
        refine Vc.nil ?_
        rcases sel_some h with ⟨hb7, h⟩ | ⟨hb7, h⟩
        · refine s_true rfl hb7 ?_
          refine s_reg ?_
          refine v_op hT hC rfl rfl rfl rfl trivial ?_
          refine Vc.nil ?_
          refine aw_ret ?_
          refine b_ret ?_
          refine t_ret ?_
          injection h with h
          subst h
          refine r_ret ?_
          refine o_ret ?_
          exact ends (Weak.refl _) rfl trivial
        · refine s_false rfl hb7 ?_
          refine aw_skip ?_
          refine b_norm ?_
          refine t_norm ?_
          refine aw_region ?_
          iterate 2 refine v_op hT hC rfl rfl rfl rfl trivial ?_
          refine Vc.nil ?_
          injection h with h
          subst h
          refine r_go ?_
          apply w_conv hC []
          · repeat' first | exact CO.nil | apply CO.gone | apply CO.row rfl rfl | apply CO.box rfl rfl | decide
          · rfl
          · decide
          · rfl
      · refine s_false rfl hb6 ?_
        refine aw_exit ?_
        refine t_exit ?_
        injection h with h
        subst h
        refine r_exit ?_
        refine o_both ?_
        apply w_conv hC []
        · repeat' first | exact CO.nil | apply CO.gone | apply CO.row rfl rfl | apply CO.box rfl rfl | decide
        · rfl
        · decide
        · rfl
    · intro v5 e
      subst e
      refine t_norm ?_
      refine s_reg ?_
      refine v_op hT hC rfl rfl rfl rfl trivial ?_
      refine Vc.nil ?_
      refine aw_ret ?_
      injection h with h
      subst h
      exact ends (Weak.refl _) rfl trivial
    · intro r' σ' e hE
      subst e
      injection h with h
      subst h
      refine t_ret ?_
      exact hE
def impl_Queue_hold_d_res (r : Queue) : AV := .tup []
def impl_Queue_hold_d_obs (r : Queue) : Objs := [(0, .box [.sv (.bool r.Begun), .sv (.int .i64 r.Next), .sv (.int .i64 r.Age), .own 16, .sv (.int .i64 r.Late), .sv (.int .i64 r.Far), .sv (.int .i64 r.Twice), .sv (.int .i64 r.Over), .sv (.int .i64 r.Lost)]), (16, .row cPacket r.Held)]
theorem impl_Queue_hold_d_ac {p0 : Queue} {p1 : Packet} {r : Queue} (h : impl_Queue_hold_d p0 p1 = some r) : AC Try.prog 150 [.ptr 0 0, .agg [.sv (.int .i64 p1.Seq), .sv (.bool p1.First), .sv (.bool p1.Last), .sv (.str p1.Bytes)]] [(0, .box [.sv (.bool p0.Begun), .sv (.int .i64 p0.Next), .sv (.int .i64 p0.Age), .own 2, .sv (.int .i64 p0.Late), .sv (.int .i64 p0.Far), .sv (.int .i64 p0.Twice), .sv (.int .i64 p0.Over), .sv (.int .i64 p0.Lost)]), (2, .row cPacket p0.Held)] (impl_Queue_hold_d_res r) (impl_Queue_hold_d_obs r) := by
  refine ac_of_body hT Try.func150 rfl fun C hC => ?_
  unfold impl_Queue_hold_d at h
  refine s_reg ?_
  refine v_op hT hC rfl rfl rfl rfl trivial ?_
  refine Vc.nil ?_
  refine s_reg ?_
  refine v_op hT hC rfl rfl rfl rfl trivial ?_
  refine Vc.nil ?_
  refine s_in ?_
  refine live [0, 3, 4] [0, 2, 48] (s' := [_, _, _]) (o' := [_, _, _]) rfl rfl ?_
  obtain ⟨v10, hl, h⟩ := bnd_some h
  refine s_loop (fun v5 => ([(4, .sv (.int .i64 v5))], [])) (fun v10 => ([(4, .sv (.int .i64 v10))], [])) hl ?_ ?_ ?_
  · apply w_conv hC []
    · repeat' first | exact CO.nil | apply CO.gone | apply CO.row rfl rfl | apply CO.box rfl rfl | decide
    · rfl
    · decide
    · rfl
  · intro v5 s hs
    have h := hs
    unfold impl_Queue_hold_d_l2 at h
    refine s_in ?_
    refine live [0, 3, 4] [0, 2, 48] (s' := [_, _, _]) (o' := [_, _, _]) rfl rfl ?_
    obtain ⟨v11, h1, h⟩ := bnd_some h
    refine aw_to ([(35, .sv (.bool v11))], []) ?_ ?_
    · have h := h1
      refine aw_draw hm ?_
      iterate 8 refine v_op hT hC rfl rfl rfl rfl trivial ?_
      rcases sel_some h with ⟨hb5, h⟩ | ⟨hb5, h⟩
      · iterate 9 refine v_on hT hC rfl rfl rfl rfl hb5 rfl rfl rfl trivial ?_
        obtain ⟨hq, h⟩ := req_some h
        refine v_on hT hC rfl rfl rfl rfl hb5 rfl rfl rfl hq ?_
        refine v_on hT hC rfl rfl rfl rfl hb5 rfl rfl rfl trivial ?_
        obtain ⟨hq, h⟩ := req_some h
        refine v_on hT hC rfl rfl rfl rfl hb5 rfl rfl rfl hq ?_
        obtain ⟨q12, hq, h⟩ := bnd_some h
        refine v_call_on hC [] rfl rfl rfl rfl hb5 rfl rfl rfl Try.call145 (impl_SeqGap_ac hq) rfl (by decide) trivial rfl (.inl rfl) rfl ?_
        iterate 6 refine v_on hT hC rfl rfl rfl rfl hb5 rfl rfl rfl trivial ?_
        obtain ⟨q13, hq, h⟩ := bnd_some h
        refine v_call_on hC [] rfl rfl rfl rfl hb5 rfl rfl rfl Try.call145 (impl_SeqGap_ac hq) rfl (by decide) trivial rfl (.inl rfl) rfl ?_
        refine v_on hT hC rfl rfl rfl rfl hb5 rfl rfl rfl trivial ?_
        refine v_pick hC rfl rfl rfl (b := true) hb5 rfl rfl rfl trivial ?_
        refine Vc.nil ⟨by kernel_rfl, ?_⟩
        injection h with h
        subst h
        refine m_norm ?_
        apply w_conv hC []
        · repeat' first | exact CO.nil | apply CO.gone | apply CO.row rfl rfl | apply CO.box rfl rfl | decide
        · rfl
        · decide
        · rfl
      · refine v_off hC rfl rfl rfl rfl hb5 rfl rfl ?_
        refine v_off hC rfl rfl rfl rfl hb5 rfl rfl ?_
        refine v_off hC rfl rfl rfl rfl hb5 rfl rfl ?_
        refine v_off hC rfl rfl rfl rfl hb5 rfl rfl ?_
        refine v_off hC rfl rfl rfl rfl hb5 rfl rfl ?_
        refine v_off hC rfl rfl rfl rfl hb5 rfl rfl ?_
        refine v_off hC rfl rfl rfl rfl hb5 rfl rfl ?_
        refine v_off hC rfl rfl rfl rfl hb5 rfl rfl ?_
        refine v_off hC rfl rfl rfl rfl hb5 rfl rfl ?_
        refine v_off hC rfl rfl rfl rfl hb5 rfl rfl ?_
        refine v_off hC rfl rfl rfl rfl hb5 rfl rfl ?_
        refine v_off hC rfl rfl rfl rfl hb5 rfl rfl ?_
        refine v_off hC rfl rfl rfl rfl hb5 rfl rfl ?_
        refine v_off hC rfl rfl rfl rfl hb5 rfl rfl ?_
        refine v_off hC rfl rfl rfl rfl hb5 rfl rfl ?_
        refine v_off hC rfl rfl rfl rfl hb5 rfl rfl ?_
        refine v_off hC rfl rfl rfl rfl hb5 rfl rfl ?_
        refine v_off hC rfl rfl rfl rfl hb5 rfl rfl ?_
        refine v_off hC rfl rfl rfl rfl hb5 rfl rfl ?_
        refine v_off hC rfl rfl rfl rfl hb5 rfl rfl ?_
        refine v_off hC rfl rfl rfl rfl hb5 rfl rfl ?_
        refine v_pick hC rfl rfl rfl (b := false) hb5 rfl rfl rfl trivial ?_
        refine Vc.nil ⟨by kernel_rfl, ?_⟩
        injection h with h
        subst h
        refine m_norm ?_
        apply w_conv hC []
        · repeat' first | exact CO.nil | apply CO.gone | apply CO.row rfl rfl | apply CO.box rfl rfl | decide
        · rfl
        · decide
        · rfl
    rcases sel_some h with ⟨hb6, h⟩ | ⟨hb6, h⟩
    · refine s_true rfl hb6 ?_
      refine aw_skip ?_
      refine t_norm ?_
      refine s_block ?_
      refine aw_region ?_
      iterate 3 refine v_op hT hC rfl rfl rfl rfl trivial ?_
      refine Vc.nil ?_
      refine b_norm ?_
      injection h with h
      subst h
      refine r_go ?_
      apply w_conv hC []
      · repeat' first | exact CO.nil | apply CO.gone | apply CO.row rfl rfl | apply CO.box rfl rfl | decide
      · rfl
      · decide
      · rfl
    · refine s_false rfl hb6 ?_
      refine aw_exit ?_
      refine t_exit ?_
      injection h with h
      subst h
      refine r_exit ?_
      refine o_out ?_
      apply w_conv hC []
      · repeat' first | exact CO.nil | apply CO.gone | apply CO.row rfl rfl | apply CO.box rfl rfl | decide
      · rfl
      · decide
      · rfl
  refine t_norm ?_
  refine s_reg ?_
  iterate 6 refine v_op hT hC rfl rfl rfl rfl trivial ?_
  obtain ⟨hq, h⟩ := req_some h
  refine v_op hT hC rfl rfl rfl rfl hq ?_
  obtain ⟨hq, h⟩ := req_some h
  refine v_op hT hC rfl rfl rfl rfl ⟨⟨hq.1, fun _ _ => rfl⟩, by rw [cPacket_id]; exact hq.2⟩ ?_
  rw [cPacket_id]
  refine v_op hT hC rfl rfl rfl rfl trivial ?_
  refine Vc.nil ?_
  refine aw_draw hm ?_
  iterate 4 refine v_op hT hC rfl rfl rfl rfl trivial ?_
  obtain ⟨hq, h⟩ := req_some h
  refine v_op hT hC rfl rfl rfl rfl ⟨fun _ _ => rfl, by rw [cPacket_id]; exact hq⟩ ?_
  rw [cPacket_id]
  iterate 5 refine v_op hT hC rfl rfl rfl rfl trivial ?_
  obtain ⟨hq, h⟩ := req_some h
  refine v_op hT hC rfl rfl rfl rfl hq ?_
  obtain ⟨hq, h⟩ := req_some h
  refine v_op hT hC rfl rfl rfl rfl ⟨⟨hq.1, fun _ _ => rfl⟩, by rw [cPacket_id]; exact hq.2⟩ ?_
  rw [cPacket_id]
  iterate 3 refine v_op hT hC rfl rfl rfl rfl trivial ?_
  refine Vc.nil ⟨by kernel_rfl, ?_⟩
  injection h with h
  subst h
  refine ends_n (τ := ⟨[], [(16, some (.row cPacket (((([] : List Packet) ++ ((p0.Held.drop ((0 : Int).toNat)).take (v10.toNat - (0 : Int).toNat))) ++ ([p1])) ++ ((p0.Held.drop v10.toNat).take ((p0.Held.length : Int).toNat - v10.toNat))))), (0, some (.box [.sv (.bool p0.Begun), .sv (.int .i64 p0.Next), .sv (.int .i64 p0.Age), .own 16, .sv (.int .i64 p0.Late), .sv (.int .i64 p0.Far), .sv (.int .i64 p0.Twice), .sv (.int .i64 p0.Over), .sv (.int .i64 p0.Lost)]))]⟩) ?_ rfl ⟨rfl, rfl, trivial⟩
  apply w_conv hC [(16, 912)]
  · repeat' first | exact CO.nil | apply CO.gone | apply CO.row rfl rfl | apply CO.box rfl rfl | decide
  · rfl
  · decide
  · rfl
end
end Go.Proofs.Ytplmeeookgefnaa.A
