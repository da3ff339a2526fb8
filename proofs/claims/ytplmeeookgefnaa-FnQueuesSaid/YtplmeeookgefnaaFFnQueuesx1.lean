/- Contracts of the functions that the law FnQueues reaches, part 1: each comes to what its pure function tells. Written by a program of this session. Conditions: as each statement tells. -/
import Derived.Test.YtplmeeookgefnaaFFnQueuesx0
namespace Go.Proofs.Ytplmeeookgefnaa.A
open Go Go.Proofs Go.Proofs.YtplmeeookgefnaaAL Go.RowKit
set_option linter.unusedVariables false
set_option linter.unusedSimpArgs false
set_option maxRecDepth 100000
set_option maxHeartbeats 2000000
noncomputable section
def spec_QueueIn_res (r : (Queue × Int)) : AV := .tup [.agg [.sv (.bool r.1.Begun), .sv (.int .i64 r.1.Next), .sv (.int .i64 r.1.Age), .own 16, .sv (.int .i64 r.1.Late), .sv (.int .i64 r.1.Far), .sv (.int .i64 r.1.Twice), .sv (.int .i64 r.1.Over), .sv (.int .i64 r.1.Lost)], .sv (.int .i64 r.2)]
def spec_QueueIn_obs (r : (Queue × Int)) : Objs := [(16, .row cPacket r.1.Held)]
theorem spec_QueueIn_ac {p0 : Queue} {p1 : Packet} {r : (Queue × Int)} (h : spec_QueueIn p0 p1 = some r) : AC Try.prog 64 [.agg [.sv (.bool p0.Begun), .sv (.int .i64 p0.Next), .sv (.int .i64 p0.Age), .sv (cPacket.sv p0.Held), .sv (.int .i64 p0.Late), .sv (.int .i64 p0.Far), .sv (.int .i64 p0.Twice), .sv (.int .i64 p0.Over), .sv (.int .i64 p0.Lost)], .agg [.sv (.int .i64 p1.Seq), .sv (.bool p1.First), .sv (.bool p1.Last), .sv (.str p1.Bytes)]] [] (spec_QueueIn_res r) (spec_QueueIn_obs r) := by
  refine ac_of_body hT Try.func64 rfl fun C hC => ?_
  unfold spec_QueueIn at h
  refine s_reg ?_
  iterate 4 refine v_op hT hC rfl rfl rfl rfl trivial ?_
  refine Vc.nil ?_
  refine s_reg ?_
  refine v_op hT hC rfl rfl rfl rfl trivial ?_
  obtain ⟨q1, hq, h⟩ := bnd_some h
  refine v_call hC [(16, 144)] rfl rfl rfl rfl Try.call136 (spec_l23Copy_ac hq) rfl (by decide) trivial rfl (.inl rfl) rfl ?_
  refine v_op hT hC rfl rfl rfl rfl trivial ?_
  refine Vc.nil ?_
  refine s_in ?_
  refine s_reg ?_
  refine v_op hT hC rfl rfl rfl rfl trivial ?_
  obtain ⟨q2, hq, h⟩ := bnd_some h
  refine v_call hC [] rfl rfl rfl rfl Try.call137 (spec_QueueOk_ac hq) rfl (by decide) trivial rfl (.inr ⟨rfl, trivial⟩) rfl ?_
  refine v_op hT hC rfl rfl rfl rfl trivial ?_
  refine Vc.nil ?_
  rcases sel_some h with ⟨hb1, h⟩ | ⟨hb1, h⟩
  · refine s_true rfl hb1 ?_
    refine s_reg ?_
    iterate 3 refine v_op hT hC rfl rfl rfl rfl trivial ?_
    refine Vc.nil ?_
    refine aw_ret ?_
    refine t_ret ?_
    injection h with h
    subst h
    refine ends (τ := ⟨[(4, .ptr 2000000 0), (5, .sv (.int .i64 1))], [(16, some (.row cPacket q1.Held)), (2000000, some (.box [.sv (.bool q1.Begun), .sv (.int .i64 q1.Next), .sv (.int .i64 q1.Age), .own 16, .sv (.int .i64 q1.Late), .sv (.int .i64 q1.Far), .sv (.int .i64 q1.Twice), .sv (.int .i64 q1.Over), .sv (.int .i64 q1.Lost)]))]⟩) ?_ rfl ⟨rfl, trivial⟩
    apply w_conv hC [(16, 144), (2000000, 64)]
    · repeat' first | exact CO.nil | apply CO.gone | apply CO.row rfl rfl | apply CO.box rfl rfl | decide
    · rfl
    · decide
    · rfl
  · refine s_false rfl hb1 ?_
    refine aw_skip ?_
    refine t_norm ?_
    refine s_in ?_
    refine s_reg ?_
    refine v_op hT hC rfl rfl rfl rfl trivial ?_
    obtain ⟨q3, hq, h⟩ := bnd_some h
    refine v_call hC [] rfl rfl rfl rfl Try.call124 (spec_PacketOk_ac hq) rfl (by decide) trivial rfl (.inl rfl) rfl ?_
    refine v_op hT hC rfl rfl rfl rfl trivial ?_
    refine Vc.nil ?_
    rcases sel_some h with ⟨hb2, h⟩ | ⟨hb2, h⟩
    · refine s_true rfl hb2 ?_
      refine s_reg ?_
      iterate 3 refine v_op hT hC rfl rfl rfl rfl trivial ?_
      refine Vc.nil ?_
      refine aw_ret ?_
      refine t_ret ?_
      injection h with h
      subst h
      refine ends (τ := ⟨[(4, .ptr 2000000 0), (5, .sv (.int .i64 2))], [(16, some (.row cPacket q1.Held)), (2000000, some (.box [.sv (.bool q1.Begun), .sv (.int .i64 q1.Next), .sv (.int .i64 q1.Age), .own 16, .sv (.int .i64 q1.Late), .sv (.int .i64 q1.Far), .sv (.int .i64 q1.Twice), .sv (.int .i64 q1.Over), .sv (.int .i64 q1.Lost)]))]⟩) ?_ rfl ⟨rfl, trivial⟩
      apply w_conv hC [(16, 144), (2000000, 64)]
      · repeat' first | exact CO.nil | apply CO.gone | apply CO.row rfl rfl | apply CO.box rfl rfl | decide
      · rfl
      · decide
      · rfl
    · refine s_false rfl hb2 ?_
      refine aw_skip ?_
      refine t_norm ?_
      refine s_in ?_
      refine s_reg ?_
      iterate 3 refine v_op hT hC rfl rfl rfl rfl trivial ?_
      refine Vc.nil ?_
      rcases sel_some h with ⟨hb3, h⟩ | ⟨hb3, h⟩
      · refine s_true rfl hb3 ?_
        refine s_reg ?_
        iterate 7 refine v_op hT hC rfl rfl rfl rfl trivial ?_
        refine Vc.nil ?_
        refine aw_ret ?_
        refine t_ret ?_
        injection h with h
        subst h
        refine ends (τ := ⟨[(4, .ptr 2000000 0), (5, .sv (.int .i64 0))], [(16, some (.row cPacket ([p1]))), (2000000, some (.box [.sv (.bool true), .sv (.int .i64 p1.Seq), .sv (.int .i64 0), .own 16, .sv (.int .i64 0), .sv (.int .i64 0), .sv (.int .i64 0), .sv (.int .i64 0), .sv (.int .i64 0)]))]⟩) ?_ rfl ⟨rfl, trivial⟩
        apply w_conv hC [(16, 384), (2000000, 64)]
        · repeat' first | exact CO.nil | apply CO.gone | apply CO.row rfl rfl | apply CO.box rfl rfl | decide
        · rfl
        · decide
        · rfl
      · refine s_false rfl hb3 ?_
        refine aw_skip ?_
        refine t_norm ?_
        refine s_reg ?_
        iterate 4 refine v_op hT hC rfl rfl rfl rfl trivial ?_
        obtain ⟨q4, hq, h⟩ := bnd_some h
        refine v_call hC [] rfl rfl rfl rfl Try.call146 (spec_SeqGap_ac hq) rfl (by decide) trivial rfl (.inl rfl) rfl ?_
        refine v_op hT hC rfl rfl rfl rfl trivial ?_
        refine Vc.nil ?_
        refine s_in ?_
        refine live [2, 3, 4, 6] [32, 48, 64, 144] (s' := [_, _, _, _]) (o' := [_, _, _, _]) rfl rfl ?_
        obtain ⟨v5, h1, h⟩ := bnd_some h
        refine aw_to ([(36, .sv (.bool v5))], []) ?_ ?_
        · have h := h1
          refine aw_region ?_
          iterate 3 refine v_op hT hC rfl rfl rfl rfl trivial ?_
          rcases sel_some h with ⟨hb4, h⟩ | ⟨hb4, h⟩
          · refine v_off hC rfl rfl rfl rfl hb4 rfl rfl ?_
            refine v_off hC rfl rfl rfl rfl hb4 rfl rfl ?_
            refine v_pick hC rfl rfl rfl (b := true) hb4 rfl rfl rfl trivial ?_
            refine Vc.nil ?_
            injection h with h
            subst h
            refine m_norm ?_
            apply w_conv hC []
            · repeat' first | exact CO.nil | apply CO.gone | apply CO.row rfl rfl | apply CO.box rfl rfl | decide
            · rfl
            · decide
            · rfl
          · iterate 2 refine v_on hT hC rfl rfl rfl rfl hb4 rfl rfl rfl trivial ?_
            refine v_pick hC rfl rfl rfl (b := false) hb4 rfl rfl rfl trivial ?_
            refine Vc.nil ?_
            injection h with h
            subst h
            refine m_norm ?_
            apply w_conv hC []
            · repeat' first | exact CO.nil | apply CO.gone | apply CO.row rfl rfl | apply CO.box rfl rfl | decide
            · rfl
            · decide
            · rfl
        rcases sel_some h with ⟨hb5, h⟩ | ⟨hb5, h⟩
        · refine s_true rfl hb5 ?_
          refine s_reg ?_
          iterate 2 refine v_op hT hC rfl rfl rfl rfl trivial ?_
          obtain ⟨q6, hq, h⟩ := bnd_some h
          refine v_call hC [] rfl rfl rfl rfl Try.call139 (spec_l23More_ac hq) rfl (by decide) trivial rfl (.inl rfl) rfl ?_
          iterate 2 refine v_op hT hC rfl rfl rfl rfl trivial ?_
          refine Vc.nil ?_
          refine s_reg ?_
          iterate 4 refine v_op hT hC rfl rfl rfl rfl trivial ?_
          refine Vc.nil ?_
          refine s_reg ?_
          iterate 4 refine v_op hT hC rfl rfl rfl rfl trivial ?_
          refine Vc.nil ?_
          refine s_reg ?_
          iterate 2 refine v_op hT hC rfl rfl rfl rfl trivial ?_
          refine Vc.nil ?_
          refine s_reg ?_
          iterate 3 refine v_op hT hC rfl rfl rfl rfl trivial ?_
          refine Vc.nil ?_
          refine aw_ret ?_
          refine t_ret ?_
          injection h with h
          subst h
          refine ends (τ := ⟨[(4, .ptr 2000000 0), (5, .sv (.int .i64 4))], [(16, some (.row cPacket ([p1]))), (2000000, some (.box [.sv (.bool q1.Begun), .sv (.int .i64 p1.Seq), .sv (.int .i64 0), .own 16, .sv (.int .i64 q1.Late), .sv (.int .i64 q6), .sv (.int .i64 q1.Twice), .sv (.int .i64 q1.Over), .sv (.int .i64 q1.Lost)]))]⟩) ?_ rfl ⟨rfl, trivial⟩
          apply w_conv hC [(16, 672), (2000000, 64)]
          · repeat' first | exact CO.nil | apply CO.gone | apply CO.row rfl rfl | apply CO.box rfl rfl | decide
          · rfl
          · decide
          · rfl
        · refine s_false rfl hb5 ?_
          refine aw_skip ?_
          refine t_norm ?_
          refine s_in ?_
          refine s_reg ?_
          iterate 2 refine v_op hT hC rfl rfl rfl rfl trivial ?_
          refine Vc.nil ?_
          rcases sel_some h with ⟨hb6, h⟩ | ⟨hb6, h⟩
          · refine s_true rfl hb6 ?_
            refine s_reg ?_
            iterate 2 refine v_op hT hC rfl rfl rfl rfl trivial ?_
            obtain ⟨q7, hq, h⟩ := bnd_some h
            refine v_call hC [] rfl rfl rfl rfl Try.call139 (spec_l23More_ac hq) rfl (by decide) trivial rfl (.inl rfl) rfl ?_
            iterate 2 refine v_op hT hC rfl rfl rfl rfl trivial ?_
            refine Vc.nil ?_
            refine s_reg ?_
            iterate 3 refine v_op hT hC rfl rfl rfl rfl trivial ?_
            refine Vc.nil ?_
            refine aw_ret ?_
            refine t_ret ?_
            injection h with h
            subst h
            refine ends (τ := ⟨[(4, .ptr 2000000 0), (5, .sv (.int .i64 3))], [(16, some (.row cPacket q1.Held)), (2000000, some (.box [.sv (.bool q1.Begun), .sv (.int .i64 q1.Next), .sv (.int .i64 q1.Age), .own 16, .sv (.int .i64 q7), .sv (.int .i64 q1.Far), .sv (.int .i64 q1.Twice), .sv (.int .i64 q1.Over), .sv (.int .i64 q1.Lost)]))]⟩) ?_ rfl ⟨rfl, trivial⟩
            apply w_conv hC [(16, 144), (2000000, 64)]
            · repeat' first | exact CO.nil | apply CO.gone | apply CO.row rfl rfl | apply CO.box rfl rfl | decide
            · rfl
            · decide
            · rfl
          · refine s_false rfl hb6 ?_
            refine aw_skip ?_
            refine t_norm ?_
            refine s_in ?_
            refine s_reg ?_
            iterate 3 refine v_op hT hC rfl rfl rfl rfl trivial ?_
            obtain ⟨q8, hq, h⟩ := bnd_some h
            refine v_call hC [] rfl rfl rfl rfl Try.call147 (spec_QueueHas_ac hq) rfl (by decide) trivial rfl (.inr ⟨rfl, trivial⟩) rfl ?_
            refine Vc.nil ?_
            rcases sel_some h with ⟨hb7, h⟩ | ⟨hb7, h⟩
            · refine s_true rfl hb7 ?_
              refine s_reg ?_
              iterate 2 refine v_op hT hC rfl rfl rfl rfl trivial ?_
              obtain ⟨q9, hq, h⟩ := bnd_some h
              refine v_call hC [] rfl rfl rfl rfl Try.call139 (spec_l23More_ac hq) rfl (by decide) trivial rfl (.inl rfl) rfl ?_
              iterate 2 refine v_op hT hC rfl rfl rfl rfl trivial ?_
              refine Vc.nil ?_
              refine s_reg ?_
              iterate 3 refine v_op hT hC rfl rfl rfl rfl trivial ?_
              refine Vc.nil ?_
              refine aw_ret ?_
              refine t_ret ?_
              injection h with h
              subst h
              refine ends (τ := ⟨[(4, .ptr 2000000 0), (5, .sv (.int .i64 5))], [(16, some (.row cPacket q1.Held)), (2000000, some (.box [.sv (.bool q1.Begun), .sv (.int .i64 q1.Next), .sv (.int .i64 q1.Age), .own 16, .sv (.int .i64 q1.Late), .sv (.int .i64 q1.Far), .sv (.int .i64 q9), .sv (.int .i64 q1.Over), .sv (.int .i64 q1.Lost)]))]⟩) ?_ rfl ⟨rfl, trivial⟩
              apply w_conv hC [(16, 144), (2000000, 64)]
              · repeat' first | exact CO.nil | apply CO.gone | apply CO.row rfl rfl | apply CO.box rfl rfl | decide
              · rfl
              · decide
              · rfl
            · refine s_false rfl hb7 ?_
              refine aw_skip ?_
              refine t_norm ?_
              refine s_in ?_
              refine s_reg ?_
              iterate 4 refine v_op hT hC rfl rfl rfl rfl trivial ?_
              refine Vc.nil ?_
              rcases sel_some h with ⟨hb8, h⟩ | ⟨hb8, h⟩
              · refine s_true rfl hb8 ?_
                refine s_reg ?_
                iterate 2 refine v_op hT hC rfl rfl rfl rfl trivial ?_
                obtain ⟨q10, hq, h⟩ := bnd_some h
                refine v_call hC [(16, 1136)] rfl rfl rfl rfl Try.call148 (spec_l23Put_ac hq) rfl (by decide) trivial rfl (.inr ⟨rfl, ⟨fun _ => rfl, trivial⟩⟩) rfl ?_
                iterate 2 refine v_op hT hC rfl rfl rfl rfl trivial ?_
                refine Vc.nil ?_
                refine aw_ret ?_
                refine t_ret ?_
                injection h with h
                subst h
                refine ends (τ := ⟨[(4, .ptr 2000000 0), (5, .sv (.int .i64 0))], [(16, some (.row cPacket q10.Held)), (2000000, some (.box [.sv (.bool q10.Begun), .sv (.int .i64 q10.Next), .sv (.int .i64 q10.Age), .own 16, .sv (.int .i64 q10.Late), .sv (.int .i64 q10.Far), .sv (.int .i64 q10.Twice), .sv (.int .i64 q10.Over), .sv (.int .i64 q10.Lost)]))]⟩) ?_ rfl ⟨rfl, trivial⟩
                apply w_conv hC [(16, 1136), (2000000, 64)]
                · repeat' first | exact CO.nil | apply CO.gone | apply CO.row rfl rfl | apply CO.box rfl rfl | decide
                · rfl
                · decide
                · rfl
              · refine s_false rfl hb8 ?_
                refine aw_skip ?_
                refine t_norm ?_
                refine s_reg ?_
                refine v_op hT hC rfl rfl rfl rfl trivial ?_
                refine Vc.nil ?_
                refine s_in ?_
                refine live [2, 3, 4, 7] [32, 48, 64, 144] (s' := [_, _, _, _]) (o' := [_, _, _, _]) rfl rfl ?_
                obtain ⟨v16, hl, h⟩ := bnd_some h
                refine s_loop (fun v13 => ([(7, .sv (.int .i64 v13))], [])) (fun v16 => ([(7, .sv (.int .i64 v16))], [])) hl ?_ ?_ ?_
                · apply w_conv hC []
                  · repeat' first | exact CO.nil | apply CO.gone | apply CO.row rfl rfl | apply CO.box rfl rfl | decide
                  · rfl
                  · decide
                  · rfl
                · intro v13 s hs
                  have h := hs
                  unfold spec_QueueIn_l2 at h
                  refine s_in ?_
                  refine live [2, 3, 4, 7] [32, 48, 64, 144] (s' := [_, _, _, _]) (o' := [_, _, _, _]) rfl rfl ?_
                  obtain ⟨v17, h1, h⟩ := bnd_some h
                  refine aw_to ([(86, .sv (.bool v17))], []) ?_ ?_
                  · have h := h1
                    refine aw_region ?_
                    iterate 7 refine v_op hT hC rfl rfl rfl rfl trivial ?_
                    rcases sel_some h with ⟨hb13, h⟩ | ⟨hb13, h⟩
                    · iterate 3 refine v_on hT hC rfl rfl rfl rfl hb13 rfl rfl rfl trivial ?_
                      obtain ⟨hq, h⟩ := req_some h
                      refine v_on hT hC rfl rfl rfl rfl hb13 rfl rfl rfl hq ?_
                      refine v_on hT hC rfl rfl rfl rfl hb13 rfl rfl rfl trivial ?_
                      obtain ⟨hq, h⟩ := req_some h
                      refine v_on hT hC rfl rfl rfl rfl hb13 rfl rfl rfl hq ?_
                      refine v_on hT hC rfl rfl rfl rfl hb13 rfl rfl rfl trivial ?_
                      refine v_pick hC rfl rfl rfl (b := true) hb13 rfl rfl rfl trivial ?_
                      refine Vc.nil ?_
                      injection h with h
                      subst h
                      refine m_norm ?_
                      apply w_conv hC []
                      · repeat' first | exact CO.nil | apply CO.gone | apply CO.row rfl rfl | apply CO.box rfl rfl | decide
                      · rfl
                      · decide
                      · rfl
                    · refine v_off hC rfl rfl rfl rfl hb13 rfl rfl ?_
                      refine v_off hC rfl rfl rfl rfl hb13 rfl rfl ?_
                      refine v_off hC rfl rfl rfl rfl hb13 rfl rfl ?_
                      refine v_off hC rfl rfl rfl rfl hb13 rfl rfl ?_
                      refine v_off hC rfl rfl rfl rfl hb13 rfl rfl ?_
                      refine v_off hC rfl rfl rfl rfl hb13 rfl rfl ?_
                      refine v_off hC rfl rfl rfl rfl hb13 rfl rfl ?_
                      refine v_pick hC rfl rfl rfl (b := false) hb13 rfl rfl rfl trivial ?_
                      refine Vc.nil ?_
                      injection h with h
                      subst h
                      refine m_norm ?_
                      apply w_conv hC []
                      · repeat' first | exact CO.nil | apply CO.gone | apply CO.row rfl rfl | apply CO.box rfl rfl | decide
                      · rfl
                      · decide
                      · rfl
                  rcases sel_some h with ⟨hb14, h⟩ | ⟨hb14, h⟩
                  · refine s_true rfl hb14 ?_
                    refine aw_skip ?_
                    refine t_norm ?_
                    refine s_block ?_
                    refine aw_region ?_
                    iterate 3 refine v_op hT hC rfl rfl rfl rfl trivial ?_
                    refine Vc.nil ?_
                    refine b_norm ?_
                    injection h with h
                    subst h
                    refine r_go ?_
                    apply w_conv hC []
                    · repeat' first | exact CO.nil | apply CO.gone | apply CO.row rfl rfl | apply CO.box rfl rfl | decide
                    · rfl
                    · decide
                    · rfl
                  · refine s_false rfl hb14 ?_
                    refine aw_exit ?_
                    refine t_exit ?_
                    injection h with h
                    subst h
                    refine r_exit ?_
                    refine o_out ?_
                    apply w_conv hC []
                    · repeat' first | exact CO.nil | apply CO.gone | apply CO.row rfl rfl | apply CO.box rfl rfl | decide
                    · rfl
                    · decide
                    · rfl
                refine t_norm ?_
                refine s_reg ?_
                iterate 2 refine v_op hT hC rfl rfl rfl rfl trivial ?_
                obtain ⟨q19, hq, h⟩ := bnd_some h
                refine v_call hC [] rfl rfl rfl rfl Try.call139 (spec_l23More_ac hq) rfl (by decide) trivial rfl (.inl rfl) rfl ?_
                iterate 2 refine v_op hT hC rfl rfl rfl rfl trivial ?_
                refine Vc.nil ?_
                refine s_reg ?_
                iterate 3 refine v_op hT hC rfl rfl rfl rfl trivial ?_
                obtain ⟨hq, h⟩ := req_some h
                refine v_op hT hC rfl rfl rfl rfl hq ?_
                refine v_op hT hC rfl rfl rfl rfl trivial ?_
                obtain ⟨hq, h⟩ := req_some h
                refine v_op hT hC rfl rfl rfl rfl hq ?_
                obtain ⟨q20, hq, h⟩ := bnd_some h
                refine v_call hC [] rfl rfl rfl rfl Try.call125 (spec_SeqPlus_ac hq) rfl (by decide) trivial rfl (.inl rfl) rfl ?_
                iterate 2 refine v_op hT hC rfl rfl rfl rfl trivial ?_
                refine Vc.nil ?_
                refine s_reg ?_
                iterate 5 refine v_op hT hC rfl rfl rfl rfl trivial ?_
                obtain ⟨hq, h⟩ := req_some h
                refine v_op hT hC rfl rfl rfl rfl hq ?_
                obtain ⟨hq, h⟩ := req_some h
                refine v_op hT hC rfl rfl rfl rfl ⟨⟨hq.1, fun _ _ => rfl⟩, by rw [cPacket_id]; exact hq.2⟩ ?_
                rw [cPacket_id]
                iterate 2 refine v_op hT hC rfl rfl rfl rfl trivial ?_
                refine Vc.nil ?_
                refine s_reg ?_
                iterate 2 refine v_op hT hC rfl rfl rfl rfl trivial ?_
                refine Vc.nil ?_
                refine live [2, 3, 4] [32, 48, 64, 1712] (s' := [_, _, _]) (o' := [_, _, _, _]) rfl rfl ?_
                obtain ⟨v21, h1, h⟩ := bnd_some h
                refine aw_to ([(3, .any)], [(32, some (.box [.sv (.bool v21.1), .sv (.int .i64 v21.2.1), .sv (.int .i64 v21.2.2.1), .own 1712, .sv (.int .i64 v21.2.2.2.1), .sv (.int .i64 v21.2.2.2.2.1), .sv (.int .i64 v21.2.2.2.2.2.1), .sv (.int .i64 v21.2.2.2.2.2.2.1), .sv (.int .i64 v21.2.2.2.2.2.2.2.1)])), (1712, some (.row cPacket v21.2.2.2.2.2.2.2.2)), (48, none)]) ?_ ?_
                · have h := h1
                  refine s_reg ?_
                  iterate 4 refine v_op hT hC rfl rfl rfl rfl trivial ?_
                  obtain ⟨q22, hq, h⟩ := bnd_some h
                  refine v_call hC [] rfl rfl rfl rfl Try.call146 (spec_SeqGap_ac hq) rfl (by decide) trivial rfl (.inl rfl) rfl ?_
                  obtain ⟨q23, hq, h⟩ := bnd_some h
                  refine v_call hC [] rfl rfl rfl rfl Try.call106 (spec_l01In_ac hq) rfl (by decide) trivial rfl (.inl rfl) rfl ?_
                  refine Vc.nil ?_
                  rcases sel_some h with ⟨hb15, h⟩ | ⟨hb15, h⟩
                  · refine s_true rfl hb15 ?_
                    refine aw_region ?_
                    iterate 2 refine v_op hT hC rfl rfl rfl rfl trivial ?_
                    obtain ⟨q24, hq, h⟩ := bnd_some h
                    refine v_call hC [(16, 1888)] rfl rfl rfl rfl Try.call148 (spec_l23Put_ac hq) rfl (by decide) trivial rfl (.inr ⟨rfl, ⟨fun _ => rfl, trivial⟩⟩) rfl ?_
                    refine v_op hT hC rfl rfl rfl rfl trivial ?_
                    refine Vc.nil ?_
                    injection h with h
                    subst h
                    refine m_norm ?_
                    try dsimp only
                    apply w_conv hC [(1712, 1888)]
                    · repeat' first | exact CO.nil | apply CO.gone | apply CO.row rfl rfl | apply CO.box rfl rfl | decide
                    · rfl
                    · decide
                    · rfl
                  · refine s_false rfl hb15 ?_
                    refine aw_skip ?_
                    injection h with h
                    subst h
                    refine m_norm ?_
                    try dsimp only
                    apply w_conv hC []
                    · repeat' first | exact CO.nil | apply CO.gone | apply CO.row rfl rfl | apply CO.box rfl rfl | decide
                    · rfl
                    · decide
                    · rfl
                refine s_reg ?_
                iterate 3 refine v_op hT hC rfl rfl rfl rfl trivial ?_
                refine Vc.nil ?_
                refine aw_ret ?_
                injection h with h
                subst h
                refine ends (τ := ⟨[(4, .ptr 2000000 0), (5, .sv (.int .i64 6))], [(16, some (.row cPacket v21.2.2.2.2.2.2.2.2)), (2000000, some (.box [.sv (.bool v21.1), .sv (.int .i64 v21.2.1), .sv (.int .i64 v21.2.2.1), .own 16, .sv (.int .i64 v21.2.2.2.1), .sv (.int .i64 v21.2.2.2.2.1), .sv (.int .i64 v21.2.2.2.2.2.1), .sv (.int .i64 v21.2.2.2.2.2.2.1), .sv (.int .i64 v21.2.2.2.2.2.2.2.1)]))]⟩) ?_ rfl ⟨rfl, trivial⟩
                apply w_conv hC [(16, 1712), (2000000, 64)]
                · repeat' first | exact CO.nil | apply CO.gone | apply CO.row rfl rfl | apply CO.box rfl rfl | decide
                · rfl
                · decide
                · rfl
def spec_l23Right_res (r : (Queue × L01Cur)) : AV := .agg [.sv (.bool r.1.Begun), .sv (.int .i64 r.1.Next), .sv (.int .i64 r.1.Age), .own 16, .sv (.int .i64 r.1.Late), .sv (.int .i64 r.1.Far), .sv (.int .i64 r.1.Twice), .sv (.int .i64 r.1.Over), .sv (.int .i64 r.1.Lost)]
def spec_l23Right_obs (r : (Queue × L01Cur)) : Objs := [(16, .row cPacket r.1.Held), (0, .box [.sv (.ints .u8 r.2.b_), .sv (.int .i64 r.2.i_), .sv (.int .i64 r.2.h_)])]
theorem spec_l23Right_ac {p0 : L01Cur} {r : (Queue × L01Cur)} (h : spec_l23Right p0 = some r) : AC Try.prog 142 [.ptr 0 0] [(0, .box [.sv (.ints .u8 p0.b_), .sv (.int .i64 p0.i_), .sv (.int .i64 p0.h_)])] (spec_l23Right_res r) (spec_l23Right_obs r) := by
  refine ac_of_body hT Try.func142 rfl fun C hC => ?_
  unfold spec_l23Right at h
  refine s_reg ?_
  refine v_op hT hC rfl rfl rfl rfl trivial ?_
  refine Vc.nil ?_
  refine s_reg ?_
  iterate 3 refine v_op hT hC rfl rfl rfl rfl trivial ?_
  refine Vc.nil ?_
  refine s_reg ?_
  refine v_op hT hC rfl rfl rfl rfl trivial ?_
  obtain ⟨q1, hq, h⟩ := bnd_some h
  refine v_call hC [(0, 0)] rfl rfl rfl rfl Try.call215 (spec_l22Seq_ac hq) rfl (by decide) ⟨rfl, trivial⟩ rfl (.inl rfl) rfl ?_
  refine v_op hT hC rfl rfl rfl rfl trivial ?_
  refine Vc.nil ?_
  refine s_reg ?_
  refine v_op hT hC rfl rfl rfl rfl trivial ?_
  obtain ⟨q2, hq, h⟩ := bnd_some h
  refine v_call hC [(0, 0)] rfl rfl rfl rfl Try.call99 (spec_l01Below_ac hq) rfl (by decide) ⟨rfl, trivial⟩ rfl (.inl rfl) rfl ?_
  refine v_op hT hC rfl rfl rfl rfl trivial ?_
  refine Vc.nil ?_
  refine live [0, 2, 3, 4, 5] [0, 32, 48] (s' := [_, _, _, _, _]) (o' := [_, _, _]) rfl rfl ?_
  obtain ⟨v3, h1, h⟩ := bnd_some h
  refine aw_to ([(5, .sv (.int .i64 v3.1))], [(0, some (.box [.sv (.ints .u8 v3.2.1), .sv (.int .i64 v3.2.2.1), .sv (.int .i64 v3.2.2.2)]))]) ?_ ?_
  · have h := h1
    refine s_reg ?_
    refine v_op hT hC rfl rfl rfl rfl trivial ?_
    obtain ⟨q4, hq, h⟩ := bnd_some h
    refine v_call hC [(0, 0)] rfl rfl rfl rfl Try.call189 (spec_l01Once_ac hq) rfl (by decide) ⟨rfl, trivial⟩ rfl (.inl rfl) rfl ?_
    refine Vc.nil ?_
    rcases sel_some h with ⟨hb1, h⟩ | ⟨hb1, h⟩
    · refine s_true rfl hb1 ?_
      refine aw_region ?_
      iterate 3 refine v_op hT hC rfl rfl rfl rfl trivial ?_
      refine Vc.nil ?_
      injection h with h
      subst h
      refine m_norm ?_
      try dsimp only
      apply w_conv hC []
      · repeat' first | exact CO.nil | apply CO.gone | apply CO.row rfl rfl | apply CO.box rfl rfl | decide
      · rfl
      · decide
      · rfl
    · refine s_false rfl hb1 ?_
      refine aw_skip ?_
      injection h with h
      subst h
      refine m_norm ?_
      try dsimp only
      apply w_conv hC []
      · repeat' first | exact CO.nil | apply CO.gone | apply CO.row rfl rfl | apply CO.box rfl rfl | decide
      · rfl
      · decide
      · rfl
  refine s_in ?_
  refine s_reg ?_
  refine v_op hT hC rfl rfl rfl rfl trivial ?_
  refine Vc.nil ?_
  refine live [0, 2, 3, 4, 5, 6] [0, 32, 48] (s' := [_, _, _, _, _, _]) (o' := [_, _, _]) rfl rfl ?_
  obtain ⟨v26, hl, h⟩ := bnd_some h
  refine s_loop (fun v15 => ([(4, .sv (.int .i64 v15.1)), (6, .sv (.int .i64 v15.2.1))], [(0, some (.box [.sv (.ints .u8 v15.2.2.1), .sv (.int .i64 v15.2.2.2.1), .sv (.int .i64 v15.2.2.2.2.1)])), (48, some (.box [.sv (.bool v15.2.2.2.2.2.1), .sv (.int .i64 v15.2.2.2.2.2.2.1), .sv (.int .i64 v15.2.2.2.2.2.2.2.1), .own 809, .sv (.int .i64 v15.2.2.2.2.2.2.2.2.1), .sv (.int .i64 v15.2.2.2.2.2.2.2.2.2.1), .sv (.int .i64 v15.2.2.2.2.2.2.2.2.2.2.1), .sv (.int .i64 v15.2.2.2.2.2.2.2.2.2.2.2.1), .sv (.int .i64 v15.2.2.2.2.2.2.2.2.2.2.2.2.1)])), (809, some (.row cPacket v15.2.2.2.2.2.2.2.2.2.2.2.2.2))])) (fun v26 => ([(0, .any), (4, .any), (5, .any), (6, .any)], [(0, some (.box [.sv (.ints .u8 v26.2.2.2.2.2.2.2.2.1), .sv (.int .i64 v26.2.2.2.2.2.2.2.2.2.1), .sv (.int .i64 v26.2.2.2.2.2.2.2.2.2.2.1)])), (48, some (.box [.sv (.bool v26.1), .sv (.int .i64 v26.2.1), .sv (.int .i64 v26.2.2.1), .own 812, .sv (.int .i64 v26.2.2.2.1), .sv (.int .i64 v26.2.2.2.2.1), .sv (.int .i64 v26.2.2.2.2.2.1), .sv (.int .i64 v26.2.2.2.2.2.2.1), .sv (.int .i64 v26.2.2.2.2.2.2.2.1)])), (812, some (.row cPacket v26.2.2.2.2.2.2.2.2.2.2.2))])) hl ?_ ?_ ?_
  · refine w_cell hC 48 3 814 (.row cPacket []) rfl rfl rfl rfl rfl cPacket_ok ?_
    try dsimp only
    apply w_conv hC [(809, 814)]
    · repeat' first | exact CO.nil | apply CO.gone | apply CO.row rfl rfl | apply CO.box rfl rfl | decide
    · rfl
    · decide
    · rfl
  · intro v15 s hs
    have h := hs
    unfold spec_l23Right_l2 at h
    refine s_in ?_
    refine s_reg ?_
    iterate 3 refine v_op hT hC rfl rfl rfl rfl trivial ?_
    refine Vc.nil ?_
    rcases sel_some h with ⟨hb10, h⟩ | ⟨hb10, h⟩
    · refine s_true rfl hb10 ?_
      refine aw_skip ?_
      refine t_norm ?_
      refine live [0, 2, 3, 4, 5, 6] [0, 32, 48, 809] (s' := [_, _, _, _, _, _]) (o' := [_, _, _, _]) rfl rfl ?_
      obtain ⟨v27, h1, h⟩ := bnd_some h
      refine aw_to ([(4, .sv (.int .i64 v27.1))], [(0, some (.box [.sv (.ints .u8 v27.2.1), .sv (.int .i64 v27.2.2.1), .sv (.int .i64 v27.2.2.2.1)])), (48, some (.box [.sv (.bool v27.2.2.2.2.1), .sv (.int .i64 v27.2.2.2.2.2.1), .sv (.int .i64 v27.2.2.2.2.2.2.1), .own 813, .sv (.int .i64 v27.2.2.2.2.2.2.2.1), .sv (.int .i64 v27.2.2.2.2.2.2.2.2.1), .sv (.int .i64 v27.2.2.2.2.2.2.2.2.2.1), .sv (.int .i64 v27.2.2.2.2.2.2.2.2.2.2.1), .sv (.int .i64 v27.2.2.2.2.2.2.2.2.2.2.2.1)])), (813, some (.row cPacket v27.2.2.2.2.2.2.2.2.2.2.2.2)), (809, none)]) ?_ ?_
      · have h := h1
        refine s_block ?_
        refine s_draw hm ?_
        iterate 3 refine v_op hT hC rfl rfl rfl rfl trivial ?_
        obtain ⟨q28, hq, h⟩ := bnd_some h
        refine v_call hC [(0, 0)] rfl rfl rfl rfl Try.call143 (spec_l23Packet_ac hq) rfl (by decide) ⟨rfl, trivial⟩ rfl (.inl rfl) rfl ?_
        obtain ⟨q29, hq, h⟩ := bnd_some h
        refine v_call hC [(16, 416)] rfl rfl rfl rfl Try.call64 (spec_QueueIn_ac hq) rfl (by decide) trivial rfl (.inr ⟨rfl, ⟨fun _ => rfl, trivial⟩⟩) rfl ?_
        iterate 4 refine v_op hT hC rfl rfl rfl rfl trivial ?_
        refine Vc.nil ⟨by kernel_rfl, ?_⟩
        refine live [0, 2, 3, 4, 5, 6] [0, 32, 48, 416] (s' := [_, _, _, _, _, _]) (o' := [_, _, _, _]) rfl rfl ?_
        obtain ⟨v30, h1, h⟩ := bnd_some h
        refine aw_to ([], [(0, some (.box [.sv (.ints .u8 v30.1), .sv (.int .i64 v30.2.1), .sv (.int .i64 v30.2.2.1)])), (48, some (.box [.sv (.bool v30.2.2.2.1), .sv (.int .i64 v30.2.2.2.2.1), .sv (.int .i64 v30.2.2.2.2.2.1), .own 416, .sv (.int .i64 v30.2.2.2.2.2.2.1), .sv (.int .i64 v30.2.2.2.2.2.2.2.1), .sv (.int .i64 v30.2.2.2.2.2.2.2.2.1), .sv (.int .i64 v30.2.2.2.2.2.2.2.2.2.1), .sv (.int .i64 v30.2.2.2.2.2.2.2.2.2.2.1)])), (416, some (.row cPacket v30.2.2.2.2.2.2.2.2.2.2.2))]) ?_ ?_
        · have h := h1
          refine s_reg ?_
          refine v_op hT hC rfl rfl rfl rfl trivial ?_
          obtain ⟨q31, hq, h⟩ := bnd_some h
          refine v_call hC [(0, 0)] rfl rfl rfl rfl Try.call189 (spec_l01Once_ac hq) rfl (by decide) ⟨rfl, trivial⟩ rfl (.inl rfl) rfl ?_
          refine Vc.nil ?_
          rcases sel_some h with ⟨hb11, h⟩ | ⟨hb11, h⟩
          · refine s_true rfl hb11 ?_
            refine aw_draw hm ?_
            iterate 2 refine v_op hT hC rfl rfl rfl rfl trivial ?_
            obtain ⟨q32, hq, h⟩ := bnd_some h
            refine v_call hC [(0, 0)] rfl rfl rfl rfl Try.call99 (spec_l01Below_ac hq) rfl (by decide) ⟨rfl, trivial⟩ rfl (.inl rfl) rfl ?_
            obtain ⟨q33, hq, h⟩ := bnd_some h
            refine v_call hC [(16, 560), (17, 561)] rfl rfl rfl rfl Try.call54 (spec_QueueTick_ac hq) rfl (by decide) trivial rfl (.inr ⟨rfl, ⟨fun _ => rfl, fun _ => rfl, trivial⟩⟩) rfl ?_
            iterate 5 refine v_op hT hC rfl rfl rfl rfl trivial ?_
            refine Vc.nil ⟨by kernel_rfl, ?_⟩
            injection h with h
            subst h
            refine m_norm ?_
            try dsimp only
            apply w_conv hC [(416, 560)]
            · repeat' first | exact CO.nil | apply CO.gone | apply CO.row rfl rfl | apply CO.box rfl rfl | decide
            · rfl
            · decide
            · rfl
          · refine s_false rfl hb11 ?_
            refine aw_skip ?_
            injection h with h
            subst h
            refine m_norm ?_
            try dsimp only
            apply w_conv hC []
            · repeat' first | exact CO.nil | apply CO.gone | apply CO.row rfl rfl | apply CO.box rfl rfl | decide
            · rfl
            · decide
            · rfl
        refine live [0, 2, 3, 4, 5, 6] [0, 32, 48, 416] (s' := [_, _, _, _, _, _]) (o' := [_, _, _, _]) rfl rfl ?_
        obtain ⟨v34, h1, h⟩ := bnd_some h
        refine aw_to ([(4, .sv (.int .i64 v34))], []) ?_ ?_
        · have h := h1
          refine s_reg ?_
          iterate 2 refine v_op hT hC rfl rfl rfl rfl trivial ?_
          refine Vc.nil ?_
          rcases sel_some h with ⟨hb12, h⟩ | ⟨hb12, h⟩
          · refine s_true rfl hb12 ?_
            refine aw_region ?_
            iterate 3 refine v_op hT hC rfl rfl rfl rfl trivial ?_
            refine Vc.nil ?_
            injection h with h
            subst h
            refine m_norm ?_
            apply w_conv hC []
            · repeat' first | exact CO.nil | apply CO.gone | apply CO.row rfl rfl | apply CO.box rfl rfl | decide
            · rfl
            · decide
            · rfl
          · refine s_false rfl hb12 ?_
            refine aw_skip ?_
            injection h with h
            subst h
            refine m_norm ?_
            apply w_conv hC []
            · repeat' first | exact CO.nil | apply CO.gone | apply CO.row rfl rfl | apply CO.box rfl rfl | decide
            · rfl
            · decide
            · rfl
        refine s_reg ?_
        refine v_op hT hC rfl rfl rfl rfl trivial ?_
        obtain ⟨q35, hq, h⟩ := bnd_some h
        refine v_call hC [(0, 0)] rfl rfl rfl rfl Try.call189 (spec_l01Once_ac hq) rfl (by decide) ⟨rfl, trivial⟩ rfl (.inl rfl) rfl ?_
        refine Vc.nil ?_
        rcases sel_some h with ⟨hb13, h⟩ | ⟨hb13, h⟩
        · refine s_true rfl hb13 ?_
          refine aw_region ?_
          iterate 2 refine v_op hT hC rfl rfl rfl rfl trivial ?_
          obtain ⟨hq, h⟩ := req_some h
          refine v_op hT hC rfl rfl rfl rfl hq ?_
          refine v_op hT hC rfl rfl rfl rfl trivial ?_
          refine Vc.nil ?_
          refine b_norm ?_
          injection h with h
          subst h
          refine m_norm ?_
          try dsimp only
          apply w_conv hC [(813, 416)]
          · repeat' first | exact CO.nil | apply CO.gone | apply CO.row rfl rfl | apply CO.box rfl rfl | decide
          · rfl
          · decide
          · rfl
        · refine s_false rfl hb13 ?_
          refine aw_skip ?_
          refine b_norm ?_
          injection h with h
          subst h
          refine m_norm ?_
          try dsimp only
          apply w_conv hC [(813, 416)]
          · repeat' first | exact CO.nil | apply CO.gone | apply CO.row rfl rfl | apply CO.box rfl rfl | decide
          · rfl
          · decide
          · rfl
      refine aw_region ?_
      iterate 3 refine v_op hT hC rfl rfl rfl rfl trivial ?_
      refine Vc.nil ?_
      injection h with h
      subst h
      refine r_go ?_
      try dsimp only
      apply w_conv hC [(809, 813)]
      · repeat' first | exact CO.nil | apply CO.gone | apply CO.row rfl rfl | apply CO.box rfl rfl | decide
      · rfl
      · decide
      · rfl
    · refine s_false rfl hb10 ?_
      refine aw_exit ?_
      refine t_exit ?_
      injection h with h
      subst h
      refine r_exit ?_
      refine o_out ?_
      try dsimp only
      apply w_conv hC [(812, 809)]
      · repeat' first | exact CO.nil | apply CO.gone | apply CO.row rfl rfl | apply CO.box rfl rfl | decide
      · rfl
      · decide
      · rfl
  refine t_norm ?_
  refine s_reg ?_
  iterate 2 refine v_op hT hC rfl rfl rfl rfl trivial ?_
  refine Vc.nil ?_
  refine aw_ret ?_
  injection h with h
  subst h
  refine ends (τ := ⟨[(2, .ptr 2000000 0)], [(16, some (.row cPacket v26.2.2.2.2.2.2.2.2.2.2.2)), (0, some (.box [.sv (.ints .u8 v26.2.2.2.2.2.2.2.2.1), .sv (.int .i64 v26.2.2.2.2.2.2.2.2.2.1), .sv (.int .i64 v26.2.2.2.2.2.2.2.2.2.2.1)])), (2000000, some (.box [.sv (.bool v26.1), .sv (.int .i64 v26.2.1), .sv (.int .i64 v26.2.2.1), .own 16, .sv (.int .i64 v26.2.2.2.1), .sv (.int .i64 v26.2.2.2.2.1), .sv (.int .i64 v26.2.2.2.2.2.1), .sv (.int .i64 v26.2.2.2.2.2.2.1), .sv (.int .i64 v26.2.2.2.2.2.2.2.1)]))]⟩) ?_ rfl ⟨rfl, rfl, trivial⟩
  apply w_conv hC [(16, 812), (2000000, 32)]
  · repeat' first | exact CO.nil | apply CO.gone | apply CO.row rfl rfl | apply CO.box rfl rfl | decide
  · rfl
  · decide
  · rfl
def spec_DrawQueue_res (r : (Queue × (List Packet))) : AV := .tup [.agg [.sv (.bool r.1.Begun), .sv (.int .i64 r.1.Next), .sv (.int .i64 r.1.Age), .own 16, .sv (.int .i64 r.1.Late), .sv (.int .i64 r.1.Far), .sv (.int .i64 r.1.Twice), .sv (.int .i64 r.1.Over), .sv (.int .i64 r.1.Lost)], .own 17]
def spec_DrawQueue_obs (r : (Queue × (List Packet))) : Objs := [(16, .row cPacket r.1.Held), (17, .row cPacket r.2)]
theorem spec_DrawQueue_ac {p0 : (List Int)} {r : (Queue × (List Packet))} (h : spec_DrawQueue p0 = some r) : AC Try.prog 61 [.sv (.ints .u8 p0)] [] (spec_DrawQueue_res r) (spec_DrawQueue_obs r) := by
  refine ac_of_body hT Try.func61 rfl fun C hC => ?_
  unfold spec_DrawQueue at h
  refine s_reg ?_
  iterate 2 refine v_op hT hC rfl rfl rfl rfl trivial ?_
  refine Vc.nil ?_
  refine s_reg ?_
  refine v_op hT hC rfl rfl rfl rfl trivial ?_
  obtain ⟨q1, hq, h⟩ := bnd_some h
  refine v_call hC [(16, 144)] rfl rfl rfl rfl Try.call97 (spec_l01New_ac hq) rfl (by decide) trivial rfl (.inl rfl) rfl ?_
  refine v_op hT hC rfl rfl rfl rfl trivial ?_
  refine Vc.nil ?_
  refine s_reg ?_
  refine v_op hT hC rfl rfl rfl rfl trivial ?_
  obtain ⟨q2, hq, h⟩ := bnd_some h
  refine v_call hC [(16, 176), (0, 144)] rfl rfl rfl rfl Try.call142 (spec_l23Right_ac hq) rfl (by decide) ⟨rfl, trivial⟩ rfl (.inl rfl) rfl ?_
  iterate 2 refine v_op hT hC rfl rfl rfl rfl trivial ?_
  refine Vc.nil ?_
  refine s_reg ?_
  iterate 2 refine v_op hT hC rfl rfl rfl rfl trivial ?_
  refine Vc.nil ?_
  refine s_in ?_
  refine s_reg ?_
  refine v_op hT hC rfl rfl rfl rfl trivial ?_
  refine Vc.nil ?_
  refine live [2, 4, 5, 6, 7] [32, 80, 144, 176, 192] (s' := [_, _, _, _, _]) (o' := [_, _, _, _, _]) rfl rfl ?_
  obtain ⟨v10, hl, h⟩ := bnd_some h
  refine s_loop (fun v6 => ([(7, .sv (.int .i64 v6.1))], [(144, some (.box [.sv (.ints .u8 v6.2.1), .sv (.int .i64 v6.2.2.1), .sv (.int .i64 v6.2.2.2.1)])), (192, some (.row cPacket v6.2.2.2.2))])) (fun v10 => ([(4, .any), (7, .any)], [(192, some (.row cPacket v10)), (144, none)])) hl ?_ ?_ ?_
  · try dsimp only
    apply w_conv hC []
    · repeat' first | exact CO.nil | apply CO.gone | apply CO.row rfl rfl | apply CO.box rfl rfl | decide
    · rfl
    · decide
    · rfl
  · intro v6 s hs
    have h := hs
    unfold spec_DrawQueue_l2 at h
    refine s_in ?_
    refine s_reg ?_
    iterate 2 refine v_op hT hC rfl rfl rfl rfl trivial ?_
    obtain ⟨q11, hq, h⟩ := bnd_some h
    refine v_call hC [(0, 144)] rfl rfl rfl rfl Try.call99 (spec_l01Below_ac hq) rfl (by decide) ⟨rfl, trivial⟩ rfl (.inl rfl) rfl ?_
    iterate 2 refine v_op hT hC rfl rfl rfl rfl trivial ?_
    refine Vc.nil ?_
    rcases sel_some h with ⟨hb3, h⟩ | ⟨hb3, h⟩
    · refine s_true rfl hb3 ?_
      refine aw_skip ?_
      refine t_norm ?_
      refine s_in ?_
      refine s_block ?_
      refine aw_region ?_
      iterate 4 refine v_op hT hC rfl rfl rfl rfl trivial ?_
      obtain ⟨q12, hq, h⟩ := bnd_some h
      refine v_call hC [(0, 144)] rfl rfl rfl rfl Try.call143 (spec_l23Packet_ac hq) rfl (by decide) ⟨rfl, trivial⟩ rfl (.inl rfl) rfl ?_
      refine v_op hT hC rfl rfl rfl rfl trivial ?_
      obtain ⟨hq, h⟩ := req_some h
      refine v_op hT hC rfl rfl rfl rfl ⟨fun _ _ => rfl, by rw [cPacket_id]; exact hq⟩ ?_
      rw [cPacket_id]
      refine v_op hT hC rfl rfl rfl rfl trivial ?_
      refine Vc.nil ?_
      refine b_norm ?_
      refine t_norm ?_
      refine aw_region ?_
      iterate 3 refine v_op hT hC rfl rfl rfl rfl trivial ?_
      refine Vc.nil ?_
      injection h with h
      subst h
      refine r_go ?_
      try dsimp only
      apply w_conv hC [(192, 416)]
      · repeat' first | exact CO.nil | apply CO.gone | apply CO.row rfl rfl | apply CO.box rfl rfl | decide
      · rfl
      · decide
      · rfl
    · refine s_false rfl hb3 ?_
      refine aw_exit ?_
      refine t_exit ?_
      injection h with h
      subst h
      refine r_exit ?_
      refine o_out ?_
      apply w_conv hC []
      · repeat' first | exact CO.nil | apply CO.gone | apply CO.row rfl rfl | apply CO.box rfl rfl | decide
      · rfl
      · decide
      · rfl
  refine t_norm ?_
  refine s_reg ?_
  iterate 4 refine v_op hT hC rfl rfl rfl rfl trivial ?_
  refine Vc.nil ?_
  refine aw_ret ?_
  injection h with h
  subst h
  refine ends (τ := ⟨[(2, .ptr 2000000 0), (3, .own 17)], [(16, some (.row cPacket q2.1.Held)), (17, some (.row cPacket v10)), (2000000, some (.box [.sv (.bool q2.1.Begun), .sv (.int .i64 q2.1.Next), .sv (.int .i64 q2.1.Age), .own 16, .sv (.int .i64 q2.1.Late), .sv (.int .i64 q2.1.Far), .sv (.int .i64 q2.1.Twice), .sv (.int .i64 q2.1.Over), .sv (.int .i64 q2.1.Lost)]))]⟩) ?_ rfl ⟨rfl, rfl, trivial⟩
  apply w_conv hC [(16, 176), (17, 192), (2000000, 32)]
  · repeat' first | exact CO.nil | apply CO.gone | apply CO.row rfl rfl | apply CO.box rfl rfl | decide
  · rfl
  · decide
  · rfl
def impl_QueueHas_res (r : Bool) : AV := .sv (.bool r)
def impl_QueueHas_obs (r : Bool) : Objs := []
theorem impl_QueueHas_ac {p0 : Queue} {p1 : Int} {r : Bool} (h : impl_QueueHas p0 p1 = some r) : AC Try.prog 149 [.agg [.sv (.bool p0.Begun), .sv (.int .i64 p0.Next), .sv (.int .i64 p0.Age), .sv (cPacket.sv p0.Held), .sv (.int .i64 p0.Late), .sv (.int .i64 p0.Far), .sv (.int .i64 p0.Twice), .sv (.int .i64 p0.Over), .sv (.int .i64 p0.Lost)], .sv (.int .i64 p1)] [] (impl_QueueHas_res r) (impl_QueueHas_obs r) := by
  refine ac_of_body hT Try.func149 rfl fun C hC => ?_
  unfold impl_QueueHas at h
  refine s_reg ?_
  iterate 2 refine v_op hT hC rfl rfl rfl rfl trivial ?_
  refine Vc.nil ?_
  refine s_in ?_
  refine s_reg ?_
  refine v_op hT hC rfl rfl rfl rfl trivial ?_
  obtain ⟨q1, hq, h⟩ := bnd_some h
  refine v_call hC [] rfl rfl rfl rfl Try.call62 (impl_QueueOk_ac hq) rfl (by decide) trivial rfl (.inl rfl) rfl ?_
  refine v_op hT hC rfl rfl rfl rfl trivial ?_
  refine Vc.nil ?_
  rcases sel_some h with ⟨hb1, h⟩ | ⟨hb1, h⟩
  · refine s_true rfl hb1 ?_
    refine s_reg ?_
    refine v_op hT hC rfl rfl rfl rfl trivial ?_
    refine Vc.nil ?_
    refine aw_ret ?_
    refine t_ret ?_
    injection h with h
    subst h
    exact ends (Weak.refl _) rfl trivial
  · refine s_false rfl hb1 ?_
    refine aw_skip ?_
    refine t_norm ?_
    refine s_in ?_
    refine s_reg ?_
    iterate 4 refine v_op hT hC rfl rfl rfl rfl trivial ?_
    refine Vc.nil ?_
    refine live [1, 11, 12, 13] [] (s' := [_, _, _, _]) (o' := []) rfl rfl ?_
    obtain ⟨o6, hl, h⟩ := bnd_some h
    refine s_loopR (fun v3 => ([(13, .sv (.int .i64 v3))], [])) (fun v5 => ([(1, .any), (11, .any), (12, .any), (13, .any)], [])) (fun r => EndsA C T Try.f149.results.toList (impl_QueueHas_res r) (impl_QueueHas_obs r)) hl ?_ ?_ ?_ ?_
    · apply w_conv hC []
      · repeat' first | exact CO.nil | apply CO.gone | apply CO.row rfl rfl | apply CO.box rfl rfl | decide
      · rfl
      · decide
      · rfl
    · intro v3 s hs
      have h := hs
      unfold impl_QueueHas_l2 at h
      refine s_reg ?_
      refine v_op hT hC rfl rfl rfl rfl trivial ?_
      refine Vc.nil ?_
      refine s_in ?_
      rcases sel_some h with ⟨hb6, h⟩ | ⟨hb6, h⟩
      · refine s_true rfl hb6 ?_
        refine aw_skip ?_
        refine t_norm ?_
        refine s_in ?_
        refine s_block ?_
        refine s_reg ?_
        obtain ⟨hq, h⟩ := req_some h
        refine v_op hT hC rfl rfl rfl rfl hq ?_
        iterate 3 refine v_op hT hC rfl rfl rfl rfl trivial ?_
        refine Vc.nil ?_
        refine s_reg ?_
        iterate 4 refine v_op hT hC rfl rfl rfl rfl trivial ?_
        refine Vc.nil ?_
        rcases sel_some h with ⟨hb7, h⟩ | ⟨hb7, h⟩
        · refine s_true rfl hb7 ?_
          refine s_reg ?_
          refine v_op hT hC rfl rfl rfl rfl trivial ?_
          refine Vc.nil ?_
          refine aw_ret ?_
          refine b_ret ?_
          refine t_ret ?_
          injection h with h
          subst h
          refine r_ret ?_
          refine o_ret ?_
          exact ends (Weak.refl _) rfl trivial
        · refine s_false rfl hb7 ?_
          refine aw_skip ?_
          refine b_norm ?_
          refine t_norm ?_
          refine aw_region ?_
          iterate 2 refine v_op hT hC rfl rfl rfl rfl trivial ?_
          refine Vc.nil ?_
          injection h with h
          subst h
          refine r_go ?_
          apply w_conv hC []
          · repeat' first | exact CO.nil | apply CO.gone | apply CO.row rfl rfl | apply CO.box rfl rfl | decide
          · rfl
          · decide
          · rfl
      · refine s_false rfl hb6 ?_
        refine aw_exit ?_
        refine t_exit ?_
        injection h with h
        subst h
        refine r_exit ?_
        refine o_both ?_
        apply w_conv hC []
        · repeat' first | exact CO.nil | apply CO.gone | apply CO.row rfl rfl | apply CO.box rfl rfl | decide
        · rfl
        · decide
        · rfl
    · intro v5 e
      subst e
      refine t_norm ?_
      refine s_reg ?_
      refine v_op hT hC rfl rfl rfl rfl trivial ?_
      refine Vc.nil ?_
      refine aw_ret ?_
      injection h with h
      subst h
      exact ends (Weak.refl _) rfl trivial
    · intro r' σ' e hE
      subst e
      injection h with h
      subst h
      refine t_ret ?_
      exact hE
def impl_Queue_hold_d_res (r : Queue) : AV := .tup []
def impl_Queue_hold_d_obs (r : Queue) : Objs := [(0, .box [.sv (.bool r.Begun), .sv (.int .i64 r.Next), .sv (.int .i64 r.Age), .own 16, .sv (.int .i64 r.Late), .sv (.int .i64 r.Far), .sv (.int .i64 r.Twice), .sv (.int .i64 r.Over), .sv (.int .i64 r.Lost)]), (16, .row cPacket r.Held)]
theorem impl_Queue_hold_d_ac {p0 : Queue} {p1 : Packet} {r : Queue} (h : impl_Queue_hold_d p0 p1 = some r) : AC Try.prog 150 [.ptr 0 0, .agg [.sv (.int .i64 p1.Seq), .sv (.bool p1.First), .sv (.bool p1.Last), .sv (.str p1.Bytes)]] [(0, .box [.sv (.bool p0.Begun), .sv (.int .i64 p0.Next), .sv (.int .i64 p0.Age), .own 2, .sv (.int .i64 p0.Late), .sv (.int .i64 p0.Far), .sv (.int .i64 p0.Twice), .sv (.int .i64 p0.Over), .sv (.int .i64 p0.Lost)]), (2, .row cPacket p0.Held)] (impl_Queue_hold_d_res r) (impl_Queue_hold_d_obs r) := by
  refine ac_of_body hT Try.func150 rfl fun C hC => ?_
  unfold impl_Queue_hold_d at h
  refine s_reg ?_
  refine v_op hT hC rfl rfl rfl rfl trivial ?_
  refine Vc.nil ?_
  refine s_reg ?_
  refine v_op hT hC rfl rfl rfl rfl trivial ?_
  refine Vc.nil ?_
  refine s_in ?_
  refine live [0, 3, 4] [0, 2, 48] (s' := [_, _, _]) (o' := [_, _, _]) rfl rfl ?_
  obtain ⟨v10, hl, h⟩ := bnd_some h
  refine s_loop (fun v5 => ([(4, .sv (.int .i64 v5))], [])) (fun v10 => ([(4, .sv (.int .i64 v10))], [])) hl ?_ ?_ ?_
  · apply w_conv hC []
    · repeat' first | exact CO.nil | apply CO.gone | apply CO.row rfl rfl | apply CO.box rfl rfl | decide
    · rfl
    · decide
    · rfl
  · intro v5 s hs
    have h := hs
    unfold impl_Queue_hold_d_l2 at h
    refine s_in ?_
    refine live [0, 3, 4] [0, 2, 48] (s' := [_, _, _]) (o' := [_, _, _]) rfl rfl ?_
    obtain ⟨v11, h1, h⟩ := bnd_some h
    refine aw_to ([(35, .sv (.bool v11))], []) ?_ ?_
    · have h := h1
      refine aw_draw hm ?_
      iterate 8 refine v_op hT hC rfl rfl rfl rfl trivial ?_
      rcases sel_some h with ⟨hb5, h⟩ | ⟨hb5, h⟩
      · iterate 9 refine v_on hT hC rfl rfl rfl rfl hb5 rfl rfl rfl trivial ?_
        obtain ⟨hq, h⟩ := req_some h
        refine v_on hT hC rfl rfl rfl rfl hb5 rfl rfl rfl hq ?_
        refine v_on hT hC rfl rfl rfl rfl hb5 rfl rfl rfl trivial ?_
        obtain ⟨hq, h⟩ := req_some h
        refine v_on hT hC rfl rfl rfl rfl hb5 rfl rfl rfl hq ?_
        obtain ⟨q12, hq, h⟩ := bnd_some h
        refine v_call_on hC [] rfl rfl rfl rfl hb5 rfl rfl rfl Try.call145 (impl_SeqGap_ac hq) rfl (by decide) trivial rfl (.inl rfl) rfl ?_
        iterate 6 refine v_on hT hC rfl rfl rfl rfl hb5 rfl rfl rfl trivial ?_
        obtain ⟨q13, hq, h⟩ := bnd_some h
        refine v_call_on hC [] rfl rfl rfl rfl hb5 rfl rfl rfl Try.call145 (impl_SeqGap_ac hq) rfl (by decide) trivial rfl (.inl rfl) rfl ?_
        refine v_on hT hC rfl rfl rfl rfl hb5 rfl rfl rfl trivial ?_
        refine v_pick hC rfl rfl rfl (b := true) hb5 rfl rfl rfl trivial ?_
        refine Vc.nil ⟨by kernel_rfl, ?_⟩
        injection h with h
        subst h
        refine m_norm ?_
        apply w_conv hC []
        · repeat' first | exact CO.nil | apply CO.gone | apply CO.row rfl rfl | apply CO.box rfl rfl | decide
        · rfl
        · decide
        · rfl
      · refine v_off hC rfl rfl rfl rfl hb5 rfl rfl ?_
        refine v_off hC rfl rfl rfl rfl hb5 rfl rfl ?_
        refine v_off hC rfl rfl rfl rfl hb5 rfl rfl ?_
        refine v_off hC rfl rfl rfl rfl hb5 rfl rfl ?_
        refine v_off hC rfl rfl rfl rfl hb5 rfl rfl ?_
        refine v_off hC rfl rfl rfl rfl hb5 rfl rfl ?_
        refine v_off hC rfl rfl rfl rfl hb5 rfl rfl ?_
        refine v_off hC rfl rfl rfl rfl hb5 rfl rfl ?_
        refine v_off hC rfl rfl rfl rfl hb5 rfl rfl ?_
        refine v_off hC rfl rfl rfl rfl hb5 rfl rfl ?_
        refine v_off hC rfl rfl rfl rfl hb5 rfl rfl ?_
        refine v_off hC rfl rfl rfl rfl hb5 rfl rfl ?_
        refine v_off hC rfl rfl rfl rfl hb5 rfl rfl ?_
        refine v_off hC rfl rfl rfl rfl hb5 rfl rfl ?_
        refine v_off hC rfl rfl rfl rfl hb5 rfl rfl ?_
        refine v_off hC rfl rfl rfl rfl hb5 rfl rfl ?_
        refine v_off hC rfl rfl rfl rfl hb5 rfl rfl ?_
        refine v_off hC rfl rfl rfl rfl hb5 rfl rfl ?_
        refine v_off hC rfl rfl rfl rfl hb5 rfl rfl ?_
        refine v_off hC rfl rfl rfl rfl hb5 rfl rfl ?_
        refine v_off hC rfl rfl rfl rfl hb5 rfl rfl ?_
        refine v_pick hC rfl rfl rfl (b := false) hb5 rfl rfl rfl trivial ?_
        refine Vc.nil ⟨by kernel_rfl, ?_⟩
        injection h with h
        subst h
        refine m_norm ?_
        apply w_conv hC []
        · repeat' first | exact CO.nil | apply CO.gone | apply CO.row rfl rfl | apply CO.box rfl rfl | decide
        · rfl
        · decide
        · rfl
    rcases sel_some h with ⟨hb6, h⟩ | ⟨hb6, h⟩
    · refine s_true rfl hb6 ?_
      refine aw_skip ?_
      refine t_norm ?_
      refine s_block ?_
      refine aw_region ?_
      iterate 3 refine v_op hT hC rfl rfl rfl rfl trivial ?_
      refine Vc.nil ?_
      refine b_norm ?_
      injection h with h
      subst h
      refine r_go ?_
      apply w_conv hC []
      · repeat' first | exact CO.nil | apply CO.gone | apply CO.row rfl rfl | apply CO.box rfl rfl | decide
      · rfl
      · decide
      · rfl
    · refine s_false rfl hb6 ?_
      refine aw_exit ?_
      refine t_exit ?_
      injection h with h
      subst h
      refine r_exit ?_
      refine o_out ?_
      apply w_conv hC []
      · repeat' first | exact CO.nil | apply CO.gone | apply CO.row rfl rfl | apply CO.box rfl rfl | decide
      · rfl
      · decide
      · rfl
  refine t_norm ?_
  refine s_reg ?_
  iterate 6 refine v_op hT hC rfl rfl rfl rfl trivial ?_
  obtain ⟨hq, h⟩ := req_some h
  refine v_op hT hC rfl rfl rfl rfl hq ?_
  obtain ⟨hq, h⟩ := req_some h
  refine v_op hT hC rfl rfl rfl rfl ⟨⟨hq.1, fun _ _ => rfl⟩, by rw [cPacket_id]; exact hq.2⟩ ?_
  rw [cPacket_id]
  refine v_op hT hC rfl rfl rfl rfl trivial ?_
  refine Vc.nil ?_
  refine aw_draw hm ?_
  iterate 4 refine v_op hT hC rfl rfl rfl rfl trivial ?_
  obtain ⟨hq, h⟩ := req_some h
  refine v_op hT hC rfl rfl rfl rfl ⟨fun _ _ => rfl, by rw [cPacket_id]; exact hq⟩ ?_
  rw [cPacket_id]
  iterate 5 refine v_op hT hC rfl rfl rfl rfl trivial ?_
  obtain ⟨hq, h⟩ := req_some h
  refine v_op hT hC rfl rfl rfl rfl hq ?_
  obtain ⟨hq, h⟩ := req_some h
  refine v_op hT hC rfl rfl rfl rfl ⟨⟨hq.1, fun _ _ => rfl⟩, by rw [cPacket_id]; exact hq.2⟩ ?_
  rw [cPacket_id]
  iterate 3 refine v_op hT hC rfl rfl rfl rfl trivial ?_
  refine Vc.nil ⟨by kernel_rfl, ?_⟩
  injection h with h
  subst h
  refine ends_n (τ := ⟨[], [(16, some (.row cPacket (((([] : List Packet) ++ ((p0.Held.drop ((0 : Int).toNat)).take (v10.toNat - (0 : Int).toNat))) ++ ([p1])) ++ ((p0.Held.drop v10.toNat).take ((p0.Held.length : Int).toNat - v10.toNat))))), (0, some (.box [.sv (.bool p0.Begun), .sv (.int .i64 p0.Next), .sv (.int .i64 p0.Age), .own 16, .sv (.int .i64 p0.Late), .sv (.int .i64 p0.Far), .sv (.int .i64 p0.Twice), .sv (.int .i64 p0.Over), .sv (.int .i64 p0.Lost)]))]⟩) ?_ rfl ⟨rfl, rfl, trivial⟩
  apply w_conv hC [(16, 912)]
  · repeat' first | exact CO.nil | apply CO.gone | apply CO.row rfl rfl | apply CO.box rfl rfl | decide
  · rfl
  · decide
  · rfl
def impl_QueueIn_res (r : (Queue × Int)) : AV := .tup [.agg [.sv (.bool r.1.Begun), .sv (.int .i64 r.1.Next), .sv (.int .i64 r.1.Age), .own 16, .sv (.int .i64 r.1.Late), .sv (.int .i64 r.1.Far), .sv (.int .i64 r.1.Twice), .sv (.int .i64 r.1.Over), .sv (.int .i64 r.1.Lost)], .sv (.int .i64 r.2)]
def impl_QueueIn_obs (r : (Queue × Int)) : Objs := [(16, .row cPacket r.1.Held)]
theorem impl_QueueIn_ac {p0 : Queue} {p1 : Packet} {r : (Queue × Int)} (h : impl_QueueIn p0 p1 = some r) : AC Try.prog 66 [.agg [.sv (.bool p0.Begun), .sv (.int .i64 p0.Next), .sv (.int .i64 p0.Age), .sv (cPacket.sv p0.Held), .sv (.int .i64 p0.Late), .sv (.int .i64 p0.Far), .sv (.int .i64 p0.Twice), .sv (.int .i64 p0.Over), .sv (.int .i64 p0.Lost)], .agg [.sv (.int .i64 p1.Seq), .sv (.bool p1.First), .sv (.bool p1.Last), .sv (.str p1.Bytes)]] [] (impl_QueueIn_res r) (impl_QueueIn_obs r) := by
  refine ac_of_body hT Try.func66 rfl fun C hC => ?_
  unfold impl_QueueIn at h
  refine s_reg ?_
  iterate 4 refine v_op hT hC rfl rfl rfl rfl trivial ?_
  refine Vc.nil ?_
  refine s_reg ?_
  refine v_op hT hC rfl rfl rfl rfl trivial ?_
  obtain ⟨q1, hq, h⟩ := bnd_some h
  refine v_call hC [(16, 160)] rfl rfl rfl rfl Try.call140 (impl_copyQueue_ac hq) rfl (by decide) trivial rfl (.inl rfl) rfl ?_
  iterate 2 refine v_op hT hC rfl rfl rfl rfl trivial ?_
  refine Vc.nil ?_
  refine s_in ?_
  refine s_block ?_
  refine s_reg ?_
  refine v_op hT hC rfl rfl rfl rfl trivial ?_
  obtain ⟨q2, hq, h⟩ := bnd_some h
  refine v_call hC [] rfl rfl rfl rfl Try.call62 (impl_QueueOk_ac hq) rfl (by decide) trivial rfl (.inl rfl) rfl ?_
  iterate 2 refine v_op hT hC rfl rfl rfl rfl trivial ?_
  refine Vc.nil ?_
  rcases sel_some h with ⟨hb1, h⟩ | ⟨hb1, h⟩
  · refine s_true rfl hb1 ?_
    refine s_reg ?_
    iterate 3 refine v_op hT hC rfl rfl rfl rfl trivial ?_
    refine Vc.nil ?_
    refine aw_ret ?_
    refine b_ret ?_
    refine t_ret ?_
    injection h with h
    subst h
    refine ends (τ := ⟨[(4, .ptr 2000000 0), (5, .sv (.int .i64 1))], [(16, some (.row cPacket q1.Held)), (2000000, some (.box [.sv (.bool q1.Begun), .sv (.int .i64 q1.Next), .sv (.int .i64 q1.Age), .own 16, .sv (.int .i64 q1.Late), .sv (.int .i64 q1.Far), .sv (.int .i64 q1.Twice), .sv (.int .i64 q1.Over), .sv (.int .i64 q1.Lost)]))]⟩) ?_ rfl ⟨rfl, trivial⟩
    apply w_conv hC [(16, 160), (2000000, 64)]
    · repeat' first | exact CO.nil | apply CO.gone | apply CO.row rfl rfl | apply CO.box rfl rfl | decide
    · rfl
    · decide
    · rfl
  · refine s_false rfl hb1 ?_
    refine s_reg ?_
    refine v_op hT hC rfl rfl rfl rfl trivial ?_
    obtain ⟨q3, hq, h⟩ := bnd_some h
    refine v_call hC [] rfl rfl rfl rfl Try.call127 (impl_PacketOk_ac hq) rfl (by decide) trivial rfl (.inl rfl) rfl ?_
    iterate 2 refine v_op hT hC rfl rfl rfl rfl trivial ?_
    refine Vc.nil ?_
    rcases sel_some h with ⟨hb2, h⟩ | ⟨hb2, h⟩
    · refine s_true rfl hb2 ?_
      refine s_reg ?_
      iterate 3 refine v_op hT hC rfl rfl rfl rfl trivial ?_
      refine Vc.nil ?_
      refine aw_ret ?_
      refine b_ret ?_
      refine t_ret ?_
      injection h with h
      subst h
      refine ends (τ := ⟨[(4, .ptr 2000000 0), (5, .sv (.int .i64 2))], [(16, some (.row cPacket q1.Held)), (2000000, some (.box [.sv (.bool q1.Begun), .sv (.int .i64 q1.Next), .sv (.int .i64 q1.Age), .own 16, .sv (.int .i64 q1.Late), .sv (.int .i64 q1.Far), .sv (.int .i64 q1.Twice), .sv (.int .i64 q1.Over), .sv (.int .i64 q1.Lost)]))]⟩) ?_ rfl ⟨rfl, trivial⟩
      apply w_conv hC [(16, 160), (2000000, 64)]
      · repeat' first | exact CO.nil | apply CO.gone | apply CO.row rfl rfl | apply CO.box rfl rfl | decide
      · rfl
      · decide
      · rfl
    · refine s_false rfl hb2 ?_
      refine s_reg ?_
      iterate 4 refine v_op hT hC rfl rfl rfl rfl trivial ?_
      refine Vc.nil ?_
      rcases sel_some h with ⟨hb3, h⟩ | ⟨hb3, h⟩
      · refine s_true rfl hb3 ?_
        refine s_reg ?_
        iterate 2 refine v_op hT hC rfl rfl rfl rfl trivial ?_
        refine Vc.nil ?_
        refine s_reg ?_
        iterate 4 refine v_op hT hC rfl rfl rfl rfl trivial ?_
        refine Vc.nil ?_
        refine s_reg ?_
        iterate 4 refine v_op hT hC rfl rfl rfl rfl trivial ?_
        refine Vc.nil ?_
        refine s_reg ?_
        iterate 3 refine v_op hT hC rfl rfl rfl rfl trivial ?_
        refine Vc.nil ?_
        refine aw_ret ?_
        refine b_ret ?_
        refine t_ret ?_
        injection h with h
        subst h
        refine ends (τ := ⟨[(4, .ptr 2000000 0), (5, .sv (.int .i64 0))], [(16, some (.row cPacket ([p1]))), (2000000, some (.box [.sv (.bool true), .sv (.int .i64 p1.Seq), .sv (.int .i64 q1.Age), .own 16, .sv (.int .i64 q1.Late), .sv (.int .i64 q1.Far), .sv (.int .i64 q1.Twice), .sv (.int .i64 q1.Over), .sv (.int .i64 q1.Lost)]))]⟩) ?_ rfl ⟨rfl, trivial⟩
        apply w_conv hC [(16, 480), (2000000, 64)]
        · repeat' first | exact CO.nil | apply CO.gone | apply CO.row rfl rfl | apply CO.box rfl rfl | decide
        · rfl
        · decide
        · rfl
      · refine s_false rfl hb3 ?_
        refine aw_skip ?_
        refine b_norm ?_
        refine t_norm ?_
        refine s_reg ?_
        iterate 4 refine v_op hT hC rfl rfl rfl rfl trivial ?_
        obtain ⟨q4, hq, h⟩ := bnd_some h
        refine v_call hC [] rfl rfl rfl rfl Try.call145 (impl_SeqGap_ac hq) rfl (by decide) trivial rfl (.inl rfl) rfl ?_
        refine v_op hT hC rfl rfl rfl rfl trivial ?_
        refine Vc.nil ?_
        refine s_in ?_
        refine s_block ?_
        refine live [2, 3, 4, 6, 7] [32, 48, 64, 96, 160] (s' := [_, _, _, _, _]) (o' := [_, _, _, _, _]) rfl rfl ?_
        obtain ⟨v5, h1, h⟩ := bnd_some h
        refine aw_to ([(38, .sv (.bool v5))], []) ?_ ?_
        · have h := h1
          refine aw_region ?_
          iterate 3 refine v_op hT hC rfl rfl rfl rfl trivial ?_
          rcases sel_some h with ⟨hb4, h⟩ | ⟨hb4, h⟩
          · refine v_off hC rfl rfl rfl rfl hb4 rfl rfl ?_
            refine v_off hC rfl rfl rfl rfl hb4 rfl rfl ?_
            refine v_pick hC rfl rfl rfl (b := true) hb4 rfl rfl rfl trivial ?_
            refine v_op hT hC rfl rfl rfl rfl trivial ?_
            refine Vc.nil ?_
            injection h with h
            subst h
            refine m_norm ?_
            apply w_conv hC []
            · repeat' first | exact CO.nil | apply CO.gone | apply CO.row rfl rfl | apply CO.box rfl rfl | decide
            · rfl
            · decide
            · rfl
          · iterate 2 refine v_on hT hC rfl rfl rfl rfl hb4 rfl rfl rfl trivial ?_
            refine v_pick hC rfl rfl rfl (b := false) hb4 rfl rfl rfl trivial ?_
            refine v_op hT hC rfl rfl rfl rfl trivial ?_
            refine Vc.nil ?_
            injection h with h
            subst h
            refine m_norm ?_
            apply w_conv hC []
            · repeat' first | exact CO.nil | apply CO.gone | apply CO.row rfl rfl | apply CO.box rfl rfl | decide
            · rfl
            · decide
            · rfl
        rcases sel_some h with ⟨hb5, h⟩ | ⟨hb5, h⟩
        · refine s_true rfl hb5 ?_
          refine s_reg ?_
          iterate 2 refine v_op hT hC rfl rfl rfl rfl trivial ?_
          obtain ⟨q6, hq, h⟩ := bnd_some h
          refine v_call hC [] rfl rfl rfl rfl Try.call141 (impl_counted_ac hq) rfl (by decide) trivial rfl (.inl rfl) rfl ?_
          iterate 2 refine v_op hT hC rfl rfl rfl rfl trivial ?_
          refine Vc.nil ?_
          refine s_reg ?_
          iterate 4 refine v_op hT hC rfl rfl rfl rfl trivial ?_
          refine Vc.nil ?_
          refine s_reg ?_
          iterate 4 refine v_op hT hC rfl rfl rfl rfl trivial ?_
          refine Vc.nil ?_
          refine s_reg ?_
          iterate 2 refine v_op hT hC rfl rfl rfl rfl trivial ?_
          refine Vc.nil ?_
          refine s_reg ?_
          iterate 3 refine v_op hT hC rfl rfl rfl rfl trivial ?_
          refine Vc.nil ?_
          refine aw_ret ?_
          refine b_ret ?_
          refine t_ret ?_
          injection h with h
          subst h
          refine ends (τ := ⟨[(4, .ptr 2000000 0), (5, .sv (.int .i64 4))], [(16, some (.row cPacket ([p1]))), (2000000, some (.box [.sv (.bool q1.Begun), .sv (.int .i64 p1.Seq), .sv (.int .i64 0), .own 16, .sv (.int .i64 q1.Late), .sv (.int .i64 q6), .sv (.int .i64 q1.Twice), .sv (.int .i64 q1.Over), .sv (.int .i64 q1.Lost)]))]⟩) ?_ rfl ⟨rfl, trivial⟩
          apply w_conv hC [(16, 848), (2000000, 64)]
          · repeat' first | exact CO.nil | apply CO.gone | apply CO.row rfl rfl | apply CO.box rfl rfl | decide
          · rfl
          · decide
          · rfl
        · refine s_false rfl hb5 ?_
          refine s_reg ?_
          iterate 3 refine v_op hT hC rfl rfl rfl rfl trivial ?_
          refine Vc.nil ?_
          rcases sel_some h with ⟨hb6, h⟩ | ⟨hb6, h⟩
          · refine s_true rfl hb6 ?_
            refine s_reg ?_
            iterate 2 refine v_op hT hC rfl rfl rfl rfl trivial ?_
            obtain ⟨q7, hq, h⟩ := bnd_some h
            refine v_call hC [] rfl rfl rfl rfl Try.call141 (impl_counted_ac hq) rfl (by decide) trivial rfl (.inl rfl) rfl ?_
            iterate 2 refine v_op hT hC rfl rfl rfl rfl trivial ?_
            refine Vc.nil ?_
            refine s_reg ?_
            iterate 3 refine v_op hT hC rfl rfl rfl rfl trivial ?_
            refine Vc.nil ?_
            refine aw_ret ?_
            refine b_ret ?_
            refine t_ret ?_
            injection h with h
            subst h
            refine ends (τ := ⟨[(4, .ptr 2000000 0), (5, .sv (.int .i64 3))], [(16, some (.row cPacket q1.Held)), (2000000, some (.box [.sv (.bool q1.Begun), .sv (.int .i64 q1.Next), .sv (.int .i64 q1.Age), .own 16, .sv (.int .i64 q7), .sv (.int .i64 q1.Far), .sv (.int .i64 q1.Twice), .sv (.int .i64 q1.Over), .sv (.int .i64 q1.Lost)]))]⟩) ?_ rfl ⟨rfl, trivial⟩
            apply w_conv hC [(16, 160), (2000000, 64)]
            · repeat' first | exact CO.nil | apply CO.gone | apply CO.row rfl rfl | apply CO.box rfl rfl | decide
            · rfl
            · decide
            · rfl
          · refine s_false rfl hb6 ?_
            refine s_reg ?_
            iterate 3 refine v_op hT hC rfl rfl rfl rfl trivial ?_
            obtain ⟨q8, hq, h⟩ := bnd_some h
            refine v_call hC [] rfl rfl rfl rfl Try.call149 (impl_QueueHas_ac hq) rfl (by decide) trivial rfl (.inl rfl) rfl ?_
            refine v_op hT hC rfl rfl rfl rfl trivial ?_
            refine Vc.nil ?_
            rcases sel_some h with ⟨hb7, h⟩ | ⟨hb7, h⟩
            · refine s_true rfl hb7 ?_
              refine s_reg ?_
              iterate 2 refine v_op hT hC rfl rfl rfl rfl trivial ?_
              obtain ⟨q9, hq, h⟩ := bnd_some h
              refine v_call hC [] rfl rfl rfl rfl Try.call141 (impl_counted_ac hq) rfl (by decide) trivial rfl (.inl rfl) rfl ?_
              iterate 2 refine v_op hT hC rfl rfl rfl rfl trivial ?_
              refine Vc.nil ?_
              refine s_reg ?_
              iterate 3 refine v_op hT hC rfl rfl rfl rfl trivial ?_
              refine Vc.nil ?_
              refine aw_ret ?_
              refine b_ret ?_
              refine t_ret ?_
              injection h with h
              subst h
              refine ends (τ := ⟨[(4, .ptr 2000000 0), (5, .sv (.int .i64 5))], [(16, some (.row cPacket q1.Held)), (2000000, some (.box [.sv (.bool q1.Begun), .sv (.int .i64 q1.Next), .sv (.int .i64 q1.Age), .own 16, .sv (.int .i64 q1.Late), .sv (.int .i64 q1.Far), .sv (.int .i64 q9), .sv (.int .i64 q1.Over), .sv (.int .i64 q1.Lost)]))]⟩) ?_ rfl ⟨rfl, trivial⟩
              apply w_conv hC [(16, 160), (2000000, 64)]
              · repeat' first | exact CO.nil | apply CO.gone | apply CO.row rfl rfl | apply CO.box rfl rfl | decide
              · rfl
              · decide
              · rfl
            · refine s_false rfl hb7 ?_
              refine s_reg ?_
              iterate 5 refine v_op hT hC rfl rfl rfl rfl trivial ?_
              refine Vc.nil ?_
              rcases sel_some h with ⟨hb8, h⟩ | ⟨hb8, h⟩
              · refine s_true rfl hb8 ?_
                refine s_reg ?_
                iterate 2 refine v_op hT hC rfl rfl rfl rfl trivial ?_
                obtain ⟨q10, hq, h⟩ := bnd_some h
                refine v_call hC [] rfl rfl rfl rfl Try.call141 (impl_counted_ac hq) rfl (by decide) trivial rfl (.inl rfl) rfl ?_
                iterate 2 refine v_op hT hC rfl rfl rfl rfl trivial ?_
                refine Vc.nil ?_
                refine s_reg ?_
                refine v_op hT hC rfl rfl rfl rfl trivial ?_
                refine Vc.nil ?_
                refine s_in ?_
                refine live [2, 3, 4, 6, 8] [32, 48, 64, 96, 160] (s' := [_, _, _, _, _]) (o' := [_, _, _, _, _]) rfl rfl ?_
                obtain ⟨v16, hl, h⟩ := bnd_some h
                refine s_loop (fun v13 => ([(8, .sv (.int .i64 v13))], [])) (fun v16 => ([(8, .sv (.int .i64 v16))], [])) hl ?_ ?_ ?_
                · apply w_conv hC []
                  · repeat' first | exact CO.nil | apply CO.gone | apply CO.row rfl rfl | apply CO.box rfl rfl | decide
                  · rfl
                  · decide
                  · rfl
                · intro v13 s hs
                  have h := hs
                  unfold impl_QueueIn_l4 at h
                  refine s_in ?_
                  refine live [2, 3, 4, 6, 8] [32, 48, 64, 96, 160] (s' := [_, _, _, _, _]) (o' := [_, _, _, _, _]) rfl rfl ?_
                  obtain ⟨v17, h1, h⟩ := bnd_some h
                  refine aw_to ([(98, .sv (.bool v17))], []) ?_ ?_
                  · have h := h1
                    refine aw_region ?_
                    iterate 7 refine v_op hT hC rfl rfl rfl rfl trivial ?_
                    rcases sel_some h with ⟨hb13, h⟩ | ⟨hb13, h⟩
                    · iterate 3 refine v_on hT hC rfl rfl rfl rfl hb13 rfl rfl rfl trivial ?_
                      obtain ⟨hq, h⟩ := req_some h
                      refine v_on hT hC rfl rfl rfl rfl hb13 rfl rfl rfl hq ?_
                      iterate 3 refine v_on hT hC rfl rfl rfl rfl hb13 rfl rfl rfl trivial ?_
                      refine v_pick hC rfl rfl rfl (b := true) hb13 rfl rfl rfl trivial ?_
                      refine Vc.nil ?_
                      injection h with h
                      subst h
                      refine m_norm ?_
                      apply w_conv hC []
                      · repeat' first | exact CO.nil | apply CO.gone | apply CO.row rfl rfl | apply CO.box rfl rfl | decide
                      · rfl
                      · decide
                      · rfl
                    · refine v_off hC rfl rfl rfl rfl hb13 rfl rfl ?_
                      refine v_off hC rfl rfl rfl rfl hb13 rfl rfl ?_
                      refine v_off hC rfl rfl rfl rfl hb13 rfl rfl ?_
                      refine v_off hC rfl rfl rfl rfl hb13 rfl rfl ?_
                      refine v_off hC rfl rfl rfl rfl hb13 rfl rfl ?_
                      refine v_off hC rfl rfl rfl rfl hb13 rfl rfl ?_
                      refine v_off hC rfl rfl rfl rfl hb13 rfl rfl ?_
                      refine v_pick hC rfl rfl rfl (b := false) hb13 rfl rfl rfl trivial ?_
                      refine Vc.nil ?_
                      injection h with h
                      subst h
                      refine m_norm ?_
                      apply w_conv hC []
                      · repeat' first | exact CO.nil | apply CO.gone | apply CO.row rfl rfl | apply CO.box rfl rfl | decide
                      · rfl
                      · decide
                      · rfl
                  rcases sel_some h with ⟨hb14, h⟩ | ⟨hb14, h⟩
                  · refine s_true rfl hb14 ?_
                    refine aw_skip ?_
                    refine t_norm ?_
                    refine s_block ?_
                    refine aw_region ?_
                    iterate 3 refine v_op hT hC rfl rfl rfl rfl trivial ?_
                    refine Vc.nil ?_
                    refine b_norm ?_
                    injection h with h
                    subst h
                    refine r_go ?_
                    apply w_conv hC []
                    · repeat' first | exact CO.nil | apply CO.gone | apply CO.row rfl rfl | apply CO.box rfl rfl | decide
                    · rfl
                    · decide
                    · rfl
                  · refine s_false rfl hb14 ?_
                    refine aw_exit ?_
                    refine t_exit ?_
                    injection h with h
                    subst h
                    refine r_exit ?_
                    refine o_out ?_
                    apply w_conv hC []
                    · repeat' first | exact CO.nil | apply CO.gone | apply CO.row rfl rfl | apply CO.box rfl rfl | decide
                    · rfl
                    · decide
                    · rfl
                refine t_norm ?_
                refine s_reg ?_
                iterate 3 refine v_op hT hC rfl rfl rfl rfl trivial ?_
                obtain ⟨hq, h⟩ := req_some h
                refine v_op hT hC rfl rfl rfl rfl hq ?_
                iterate 2 refine v_op hT hC rfl rfl rfl rfl trivial ?_
                obtain ⟨q19, hq, h⟩ := bnd_some h
                refine v_call hC [] rfl rfl rfl rfl Try.call128 (impl_SeqPlus_ac hq) rfl (by decide) trivial rfl (.inl rfl) rfl ?_
                iterate 2 refine v_op hT hC rfl rfl rfl rfl trivial ?_
                refine Vc.nil ?_
                refine s_reg ?_
                iterate 4 refine v_op hT hC rfl rfl rfl rfl trivial ?_
                obtain ⟨hq, h⟩ := req_some h
                refine v_op hT hC rfl rfl rfl rfl hq ?_
                iterate 2 refine v_op hT hC rfl rfl rfl rfl trivial ?_
                refine Vc.nil ?_
                refine aw_weak (w_subr hC 96 3 160 2066 rfl rfl rfl rfl cPacket_ok (by omega) rfl rfl (Weak.refl _)) ?_
                refine s_reg ?_
                iterate 2 refine v_op hT hC rfl rfl rfl rfl trivial ?_
                refine Vc.nil ?_
                refine live [3, 4, 6] [48, 64, 96, 2066] (s' := [_, _, _]) (o' := [_, _, _, _]) rfl rfl ?_
                obtain ⟨v20, h1, h⟩ := bnd_some h
                refine aw_to ([(3, .any)], [(96, some (.box [.sv (.bool v20.1), .sv (.int .i64 v20.2.1), .sv (.int .i64 v20.2.2.1), .own 2066, .sv (.int .i64 v20.2.2.2.1), .sv (.int .i64 v20.2.2.2.2.1), .sv (.int .i64 v20.2.2.2.2.2.1), .sv (.int .i64 v20.2.2.2.2.2.2.1), .sv (.int .i64 v20.2.2.2.2.2.2.2.1)])), (2066, some (.row cPacket v20.2.2.2.2.2.2.2.2)), (48, none)]) ?_ ?_
                · have h := h1
                  refine s_reg ?_
                  iterate 4 refine v_op hT hC rfl rfl rfl rfl trivial ?_
                  obtain ⟨q21, hq, h⟩ := bnd_some h
                  refine v_call hC [] rfl rfl rfl rfl Try.call145 (impl_SeqGap_ac hq) rfl (by decide) trivial rfl (.inl rfl) rfl ?_
                  obtain ⟨q22, hq, h⟩ := bnd_some h
                  refine v_call hC [] rfl rfl rfl rfl Try.call102 (impl_within_ac hq) rfl (by decide) trivial rfl (.inl rfl) rfl ?_
                  refine Vc.nil ?_
                  rcases sel_some h with ⟨hb15, h⟩ | ⟨hb15, h⟩
                  · refine s_true rfl hb15 ?_
                    refine aw_region ?_
                    refine v_op hT hC rfl rfl rfl rfl trivial ?_
                    obtain ⟨q23, hq, h⟩ := bnd_some h
                    refine v_call hC [(0, 96), (16, 1969), (2, 2066)] rfl rfl rfl rfl Try.call150 (impl_Queue_hold_d_ac hq) rfl (by decide) ⟨rfl, rfl, trivial⟩ rfl (.inl rfl) rfl ?_
                    refine Vc.nil ?_
                    injection h with h
                    subst h
                    refine m_norm ?_
                    try dsimp only
                    apply w_conv hC [(2066, 1969)]
                    · repeat' first | exact CO.nil | apply CO.gone | apply CO.row rfl rfl | apply CO.box rfl rfl | decide
                    · rfl
                    · decide
                    · rfl
                  · refine s_false rfl hb15 ?_
                    refine aw_skip ?_
                    injection h with h
                    subst h
                    refine m_norm ?_
                    try dsimp only
                    apply w_conv hC []
                    · repeat' first | exact CO.nil | apply CO.gone | apply CO.row rfl rfl | apply CO.box rfl rfl | decide
                    · rfl
                    · decide
                    · rfl
                refine s_reg ?_
                iterate 3 refine v_op hT hC rfl rfl rfl rfl trivial ?_
                refine Vc.nil ?_
                refine aw_ret ?_
                refine b_ret ?_
                refine t_ret ?_
                injection h with h
                subst h
                refine ends (τ := ⟨[(4, .ptr 2000000 0), (5, .sv (.int .i64 6))], [(16, some (.row cPacket v20.2.2.2.2.2.2.2.2)), (2000000, some (.box [.sv (.bool v20.1), .sv (.int .i64 v20.2.1), .sv (.int .i64 v20.2.2.1), .own 16, .sv (.int .i64 v20.2.2.2.1), .sv (.int .i64 v20.2.2.2.2.1), .sv (.int .i64 v20.2.2.2.2.2.1), .sv (.int .i64 v20.2.2.2.2.2.2.1), .sv (.int .i64 v20.2.2.2.2.2.2.2.1)]))]⟩) ?_ rfl ⟨rfl, trivial⟩
                apply w_conv hC [(16, 2066), (2000000, 64)]
                · repeat' first | exact CO.nil | apply CO.gone | apply CO.row rfl rfl | apply CO.box rfl rfl | decide
                · rfl
                · decide
                · rfl
              · refine s_false rfl hb8 ?_
                refine aw_skip ?_
                refine b_norm ?_
                refine t_norm ?_
                refine s_reg ?_
                refine v_op hT hC rfl rfl rfl rfl trivial ?_
                obtain ⟨q24, hq, h⟩ := bnd_some h
                refine v_call hC [(0, 96), (16, 2017), (2, 160)] rfl rfl rfl rfl Try.call150 (impl_Queue_hold_d_ac hq) rfl (by decide) ⟨rfl, rfl, trivial⟩ rfl (.inl rfl) rfl ?_
                refine Vc.nil ?_
                refine s_reg ?_
                iterate 3 refine v_op hT hC rfl rfl rfl rfl trivial ?_
                refine Vc.nil ?_
                refine aw_ret ?_
                injection h with h
                subst h
                refine ends (τ := ⟨[(4, .ptr 2000000 0), (5, .sv (.int .i64 0))], [(16, some (.row cPacket q24.Held)), (2000000, some (.box [.sv (.bool q24.Begun), .sv (.int .i64 q24.Next), .sv (.int .i64 q24.Age), .own 16, .sv (.int .i64 q24.Late), .sv (.int .i64 q24.Far), .sv (.int .i64 q24.Twice), .sv (.int .i64 q24.Over), .sv (.int .i64 q24.Lost)]))]⟩) ?_ rfl ⟨rfl, trivial⟩
                apply w_conv hC [(16, 2017), (2000000, 64)]
                · repeat' first | exact CO.nil | apply CO.gone | apply CO.row rfl rfl | apply CO.box rfl rfl | decide
                · rfl
                · decide
                · rfl
def laws_samePackets_res (r : Bool) : AV := .sv (.bool r)
def laws_samePackets_obs (r : Bool) : Objs := []
theorem laws_samePackets_ac {p0 : (List Packet)} {p1 : (List Packet)} {r : Bool} (h : laws_samePackets p0 p1 = some r) : AC Try.prog 68 [.sv (cPacket.sv p0), .sv (cPacket.sv p1)] [] (laws_samePackets_res r) (laws_samePackets_obs r) := by
  refine ac_of_body hT Try.func68 rfl fun C hC => ?_
  unfold laws_samePackets at h
  refine s_reg ?_
  refine v_op hT hC rfl rfl rfl rfl trivial ?_
  refine Vc.nil ?_
  refine s_in ?_
  refine s_reg ?_
  iterate 5 refine v_op hT hC rfl rfl rfl rfl trivial ?_
  refine Vc.nil ?_
  rcases sel_some h with ⟨hb1, h⟩ | ⟨hb1, h⟩
  · refine s_true rfl hb1 ?_
    refine s_reg ?_
    refine v_op hT hC rfl rfl rfl rfl trivial ?_
    refine Vc.nil ?_
    refine aw_ret ?_
    refine t_ret ?_
    injection h with h
    subst h
    exact ends (Weak.refl _) rfl trivial
  · refine s_false rfl hb1 ?_
    refine aw_skip ?_
    refine t_norm ?_
    refine s_in ?_
    refine s_reg ?_
    refine v_op hT hC rfl rfl rfl rfl trivial ?_
    refine Vc.nil ?_
    refine live [0, 1, 5] [] (s' := [_, _, _]) (o' := []) rfl rfl ?_
    obtain ⟨o5, hl, h⟩ := bnd_some h
    refine s_loopR (fun v2 => ([(5, .sv (.int .i64 v2))], [])) (fun v4 => ([(0, .any), (1, .any), (5, .any)], [])) (fun r => EndsA C T Try.f68.results.toList (laws_samePackets_res r) (laws_samePackets_obs r)) hl ?_ ?_ ?_ ?_
    · apply w_conv hC []
      · repeat' first | exact CO.nil | apply CO.gone | apply CO.row rfl rfl | apply CO.box rfl rfl | decide
      · rfl
      · decide
      · rfl
    · intro v2 s hs
      have h := hs
      unfold laws_samePackets_l2 at h
      refine s_in ?_
      refine s_reg ?_
      iterate 4 refine v_op hT hC rfl rfl rfl rfl trivial ?_
      refine Vc.nil ?_
      rcases sel_some h with ⟨hb6, h⟩ | ⟨hb6, h⟩
      · refine s_true rfl hb6 ?_
        refine aw_skip ?_
        refine t_norm ?_
        refine s_in ?_
        refine s_block ?_
        refine s_draw hm ?_
        iterate 2 refine v_op hT hC rfl rfl rfl rfl trivial ?_
        obtain ⟨hq, h⟩ := req_some h
        refine v_op hT hC rfl rfl rfl rfl hq ?_
        iterate 3 refine v_op hT hC rfl rfl rfl rfl trivial ?_
        obtain ⟨hq, h⟩ := req_some h
        refine v_op hT hC rfl rfl rfl rfl hq ?_
        refine v_op hT hC rfl rfl rfl rfl trivial ?_
        refine v_eq hC rfl rfl rfl rfl eq_t100 rfl rfl ?_
        refine Vc.nil ⟨by kernel_rfl, ?_⟩
        rcases sel_some h with ⟨hb7, h⟩ | ⟨hb7, h⟩
        · refine s_true rfl hb7 ?_
          refine s_reg ?_
          refine v_op hT hC rfl rfl rfl rfl trivial ?_
          refine Vc.nil ?_
          refine aw_ret ?_
          refine b_ret ?_
          refine t_ret ?_
          injection h with h
          subst h
          refine r_ret ?_
          refine o_ret ?_
          exact ends (Weak.refl _) rfl trivial
        · refine s_false rfl hb7 ?_
          refine aw_skip ?_
          refine b_norm ?_
          refine t_norm ?_
          refine aw_region ?_
          iterate 3 refine v_op hT hC rfl rfl rfl rfl trivial ?_
          refine Vc.nil ?_
          injection h with h
          subst h
          refine r_go ?_
          apply w_conv hC []
          · repeat' first | exact CO.nil | apply CO.gone | apply CO.row rfl rfl | apply CO.box rfl rfl | decide
          · rfl
          · decide
          · rfl
      · refine s_false rfl hb6 ?_
        refine aw_exit ?_
        refine t_exit ?_
        injection h with h
        subst h
        refine r_exit ?_
        refine o_both ?_
        apply w_conv hC []
        · repeat' first | exact CO.nil | apply CO.gone | apply CO.row rfl rfl | apply CO.box rfl rfl | decide
        · rfl
        · decide
        · rfl
    · intro v4 e
      subst e
      refine t_norm ?_
      refine s_reg ?_
      refine v_op hT hC rfl rfl rfl rfl trivial ?_
      refine Vc.nil ?_
      refine aw_ret ?_
      injection h with h
      subst h
      exact ends (Weak.refl _) rfl trivial
    · intro r' σ' e hE
      subst e
      injection h with h
      subst h
      refine t_ret ?_
      exact hE
def laws_sameQueue_res (r : Bool) : AV := .sv (.bool r)
def laws_sameQueue_obs (r : Bool) : Objs := []
theorem laws_sameQueue_ac {p0 : Queue} {p1 : Queue} {r : Bool} (h : laws_sameQueue p0 p1 = some r) : AC Try.prog 67 [.agg [.sv (.bool p0.Begun), .sv (.int .i64 p0.Next), .sv (.int .i64 p0.Age), .sv (cPacket.sv p0.Held), .sv (.int .i64 p0.Late), .sv (.int .i64 p0.Far), .sv (.int .i64 p0.Twice), .sv (.int .i64 p0.Over), .sv (.int .i64 p0.Lost)], .agg [.sv (.bool p1.Begun), .sv (.int .i64 p1.Next), .sv (.int .i64 p1.Age), .sv (cPacket.sv p1.Held), .sv (.int .i64 p1.Late), .sv (.int .i64 p1.Far), .sv (.int .i64 p1.Twice), .sv (.int .i64 p1.Over), .sv (.int .i64 p1.Lost)]] [] (laws_sameQueue_res r) (laws_sameQueue_obs r) := by
  refine ac_of_body hT Try.func67 rfl fun C hC => ?_
  unfold laws_sameQueue at h
  refine s_reg ?_
  iterate 3 refine v_op hT hC rfl rfl rfl rfl trivial ?_
  refine Vc.nil ?_
  refine live [2, 3, 4] [32, 48] (s' := [_, _, _]) (o' := [_, _]) rfl rfl ?_
  obtain ⟨v1, h1, h⟩ := bnd_some h
  refine aw_to ([(4, .sv (.bool v1)), (2, .any), (3, .any)], [(32, none), (48, none)]) ?_ ?_
  · have h := h1
    refine aw_region ?_
    iterate 6 refine v_op hT hC rfl rfl rfl rfl trivial ?_
    rcases sel_some h with ⟨hb1, h⟩ | ⟨hb1, h⟩
    · iterate 5 refine v_on hT hC rfl rfl rfl rfl hb1 rfl rfl rfl trivial ?_
      refine v_pick hC rfl rfl rfl (b := true) hb1 rfl rfl rfl trivial ?_
      refine v_op hT hC rfl rfl rfl rfl trivial ?_
      rcases sel_some h with ⟨hb2, h⟩ | ⟨hb2, h⟩
      · iterate 5 refine v_on hT hC rfl rfl rfl rfl hb2 rfl rfl rfl trivial ?_
        refine v_pick hC rfl rfl rfl (b := true) hb2 rfl rfl rfl trivial ?_
        refine v_op hT hC rfl rfl rfl rfl trivial ?_
        rcases sel_some h with ⟨hb3, h⟩ | ⟨hb3, h⟩
        · iterate 4 refine v_on hT hC rfl rfl rfl rfl hb3 rfl rfl rfl trivial ?_
          obtain ⟨q2, hq, h⟩ := bnd_some h
          refine v_call_on hC [] rfl rfl rfl rfl hb3 rfl rfl rfl Try.call68 (laws_samePackets_ac hq) rfl (by decide) trivial rfl (.inl rfl) rfl ?_
          refine v_pick hC rfl rfl rfl (b := true) hb3 rfl rfl rfl trivial ?_
          refine v_op hT hC rfl rfl rfl rfl trivial ?_
          rcases sel_some h with ⟨hb4, h⟩ | ⟨hb4, h⟩
          · iterate 5 refine v_on hT hC rfl rfl rfl rfl hb4 rfl rfl rfl trivial ?_
            refine v_pick hC rfl rfl rfl (b := true) hb4 rfl rfl rfl trivial ?_
            refine v_op hT hC rfl rfl rfl rfl trivial ?_
            rcases sel_some h with ⟨hb5, h⟩ | ⟨hb5, h⟩
            · iterate 5 refine v_on hT hC rfl rfl rfl rfl hb5 rfl rfl rfl trivial ?_
              refine v_pick hC rfl rfl rfl (b := true) hb5 rfl rfl rfl trivial ?_
              refine v_op hT hC rfl rfl rfl rfl trivial ?_
              rcases sel_some h with ⟨hb6, h⟩ | ⟨hb6, h⟩
              · iterate 5 refine v_on hT hC rfl rfl rfl rfl hb6 rfl rfl rfl trivial ?_
                refine v_pick hC rfl rfl rfl (b := true) hb6 rfl rfl rfl trivial ?_
                refine v_op hT hC rfl rfl rfl rfl trivial ?_
                rcases sel_some h with ⟨hb7, h⟩ | ⟨hb7, h⟩
                · iterate 5 refine v_on hT hC rfl rfl rfl rfl hb7 rfl rfl rfl trivial ?_
                  refine v_pick hC rfl rfl rfl (b := true) hb7 rfl rfl rfl trivial ?_
                  refine v_op hT hC rfl rfl rfl rfl trivial ?_
                  rcases sel_some h with ⟨hb8, h⟩ | ⟨hb8, h⟩
                  · iterate 5 refine v_on hT hC rfl rfl rfl rfl hb8 rfl rfl rfl trivial ?_
                    refine v_pick hC rfl rfl rfl (b := true) hb8 rfl rfl rfl trivial ?_
                    refine v_op hT hC rfl rfl rfl rfl trivial ?_
                    refine Vc.nil ?_
                    injection h with h
                    subst h
                    refine m_norm ?_
                    apply w_conv hC []
                    · repeat' first | exact CO.nil | apply CO.gone | apply CO.row rfl rfl | apply CO.box rfl rfl | decide
                    · rfl
                    · decide
                    · rfl
                  · refine v_off hC rfl rfl rfl rfl hb8 rfl rfl ?_
                    refine v_off hC rfl rfl rfl rfl hb8 rfl rfl ?_
                    refine v_off hC rfl rfl rfl rfl hb8 rfl rfl ?_
                    refine v_off hC rfl rfl rfl rfl hb8 rfl rfl ?_
                    refine v_off hC rfl rfl rfl rfl hb8 rfl rfl ?_
                    refine v_pick hC rfl rfl rfl (b := false) hb8 rfl rfl rfl trivial ?_
                    refine v_op hT hC rfl rfl rfl rfl trivial ?_
                    refine Vc.nil ?_
                    injection h with h
                    subst h
                    refine m_norm ?_
                    apply w_conv hC []
                    · repeat' first | exact CO.nil | apply CO.gone | apply CO.row rfl rfl | apply CO.box rfl rfl | decide
                    · rfl
                    · decide
                    · rfl
                · refine v_off hC rfl rfl rfl rfl hb7 rfl rfl ?_
                  refine v_off hC rfl rfl rfl rfl hb7 rfl rfl ?_
                  refine v_off hC rfl rfl rfl rfl hb7 rfl rfl ?_
                  refine v_off hC rfl rfl rfl rfl hb7 rfl rfl ?_
                  refine v_off hC rfl rfl rfl rfl hb7 rfl rfl ?_
                  refine v_pick hC rfl rfl rfl (b := false) hb7 rfl rfl rfl trivial ?_
                  refine v_op hT hC rfl rfl rfl rfl trivial ?_
                  refine v_off hC rfl rfl rfl rfl rfl rfl rfl ?_
                  refine v_off hC rfl rfl rfl rfl rfl rfl rfl ?_
                  refine v_off hC rfl rfl rfl rfl rfl rfl rfl ?_
                  refine v_off hC rfl rfl rfl rfl rfl rfl rfl ?_
                  refine v_off hC rfl rfl rfl rfl rfl rfl rfl ?_
                  iterate 2 refine v_op hT hC rfl rfl rfl rfl trivial ?_
                  refine Vc.nil ?_
                  injection h with h
                  subst h
                  refine m_norm ?_
                  apply w_conv hC []
                  · repeat' first | exact CO.nil | apply CO.gone | apply CO.row rfl rfl | apply CO.box rfl rfl | decide
                  · rfl
                  · decide
                  · rfl
              · refine v_off hC rfl rfl rfl rfl hb6 rfl rfl ?_
                refine v_off hC rfl rfl rfl rfl hb6 rfl rfl ?_
                refine v_off hC rfl rfl rfl rfl hb6 rfl rfl ?_
                refine v_off hC rfl rfl rfl rfl hb6 rfl rfl ?_
                refine v_off hC rfl rfl rfl rfl hb6 rfl rfl ?_
                refine v_pick hC rfl rfl rfl (b := false) hb6 rfl rfl rfl trivial ?_
                refine v_op hT hC rfl rfl rfl rfl trivial ?_
                refine v_off hC rfl rfl rfl rfl rfl rfl rfl ?_
                refine v_off hC rfl rfl rfl rfl rfl rfl rfl ?_
                refine v_off hC rfl rfl rfl rfl rfl rfl rfl ?_
                refine v_off hC rfl rfl rfl rfl rfl rfl rfl ?_
                refine v_off hC rfl rfl rfl rfl rfl rfl rfl ?_
                iterate 2 refine v_op hT hC rfl rfl rfl rfl trivial ?_
                refine v_off hC rfl rfl rfl rfl rfl rfl rfl ?_
                refine v_off hC rfl rfl rfl rfl rfl rfl rfl ?_
                refine v_off hC rfl rfl rfl rfl rfl rfl rfl ?_
                refine v_off hC rfl rfl rfl rfl rfl rfl rfl ?_
                refine v_off hC rfl rfl rfl rfl rfl rfl rfl ?_
                iterate 2 refine v_op hT hC rfl rfl rfl rfl trivial ?_
                refine Vc.nil ?_
                injection h with h
                subst h
                refine m_norm ?_
                apply w_conv hC []
                · repeat' first | exact CO.nil | apply CO.gone | apply CO.row rfl rfl | apply CO.box rfl rfl | decide
                · rfl
                · decide
                · rfl
            · refine v_off hC rfl rfl rfl rfl hb5 rfl rfl ?_
              refine v_off hC rfl rfl rfl rfl hb5 rfl rfl ?_
              refine v_off hC rfl rfl rfl rfl hb5 rfl rfl ?_
              refine v_off hC rfl rfl rfl rfl hb5 rfl rfl ?_
              refine v_off hC rfl rfl rfl rfl hb5 rfl rfl ?_
              refine v_pick hC rfl rfl rfl (b := false) hb5 rfl rfl rfl trivial ?_
              refine v_op hT hC rfl rfl rfl rfl trivial ?_
              refine v_off hC rfl rfl rfl rfl rfl rfl rfl ?_
              refine v_off hC rfl rfl rfl rfl rfl rfl rfl ?_
              refine v_off hC rfl rfl rfl rfl rfl rfl rfl ?_
              refine v_off hC rfl rfl rfl rfl rfl rfl rfl ?_
              refine v_off hC rfl rfl rfl rfl rfl rfl rfl ?_
              iterate 2 refine v_op hT hC rfl rfl rfl rfl trivial ?_
              refine v_off hC rfl rfl rfl rfl rfl rfl rfl ?_
              refine v_off hC rfl rfl rfl rfl rfl rfl rfl ?_
              refine v_off hC rfl rfl rfl rfl rfl rfl rfl ?_
              refine v_off hC rfl rfl rfl rfl rfl rfl rfl ?_
              refine v_off hC rfl rfl rfl rfl rfl rfl rfl ?_
              iterate 2 refine v_op hT hC rfl rfl rfl rfl trivial ?_
              refine v_off hC rfl rfl rfl rfl rfl rfl rfl ?_
              refine v_off hC rfl rfl rfl rfl rfl rfl rfl ?_
              refine v_off hC rfl rfl rfl rfl rfl rfl rfl ?_
              refine v_off hC rfl rfl rfl rfl rfl rfl rfl ?_
              refine v_off hC rfl rfl rfl rfl rfl rfl rfl ?_
              iterate 2 refine v_op hT hC rfl rfl rfl rfl trivial ?_
              refine Vc.nil ?_
              injection h with h
              subst h
              refine m_norm ?_
              apply w_conv hC []
              · repeat' first | exact CO.nil | apply CO.gone | apply CO.row rfl rfl | apply CO.box rfl rfl | decide
              · rfl
              · decide
              · rfl
          · refine v_off hC rfl rfl rfl rfl hb4 rfl rfl ?_
            refine v_off hC rfl rfl rfl rfl hb4 rfl rfl ?_
            refine v_off hC rfl rfl rfl rfl hb4 rfl rfl ?_
            refine v_off hC rfl rfl rfl rfl hb4 rfl rfl ?_
            refine v_off hC rfl rfl rfl rfl hb4 rfl rfl ?_
            refine v_pick hC rfl rfl rfl (b := false) hb4 rfl rfl rfl trivial ?_
            refine v_op hT hC rfl rfl rfl rfl trivial ?_
            refine v_off hC rfl rfl rfl rfl rfl rfl rfl ?_
            refine v_off hC rfl rfl rfl rfl rfl rfl rfl ?_
            refine v_off hC rfl rfl rfl rfl rfl rfl rfl ?_
            refine v_off hC rfl rfl rfl rfl rfl rfl rfl ?_
            refine v_off hC rfl rfl rfl rfl rfl rfl rfl ?_
            iterate 2 refine v_op hT hC rfl rfl rfl rfl trivial ?_
            refine v_off hC rfl rfl rfl rfl rfl rfl rfl ?_
            refine v_off hC rfl rfl rfl rfl rfl rfl rfl ?_
            refine v_off hC rfl rfl rfl rfl rfl rfl rfl ?_
            refine v_off hC rfl rfl rfl rfl rfl rfl rfl ?_
            refine v_off hC rfl rfl rfl rfl rfl rfl rfl ?_
            iterate 2 refine v_op hT hC rfl rfl rfl rfl trivial ?_
            refine v_off hC rfl rfl rfl rfl rfl rfl rfl ?_
            refine v_off hC rfl rfl rfl rfl rfl rfl rfl ?_
            refine v_off hC rfl rfl rfl rfl rfl rfl rfl ?_
            refine v_off hC rfl rfl rfl rfl rfl rfl rfl ?_
            refine v_off hC rfl rfl rfl rfl rfl rfl rfl ?_
            iterate 2 refine v_op hT hC rfl rfl rfl rfl trivial ?_
            refine v_off hC rfl rfl rfl rfl rfl rfl rfl ?_
            refine v_off hC rfl rfl rfl rfl rfl rfl rfl ?_
            refine v_off hC rfl rfl rfl rfl rfl rfl rfl ?_
            refine v_off hC rfl rfl rfl rfl rfl rfl rfl ?_
            refine v_off hC rfl rfl rfl rfl rfl rfl rfl ?_
            iterate 2 refine v_op hT hC rfl rfl rfl rfl trivial ?_
            refine Vc.nil ?_
            injection h with h
            subst h
            refine m_norm ?_
            apply w_conv hC []
            · repeat' first | exact CO.nil | apply CO.gone | apply CO.row rfl rfl | apply CO.box rfl rfl | decide
            · rfl
            · decide
            · rfl
        · refine v_off hC rfl rfl rfl rfl hb3 rfl rfl ?_
          refine v_off hC rfl rfl rfl rfl hb3 rfl rfl ?_
          refine v_off hC rfl rfl rfl rfl hb3 rfl rfl ?_
          refine v_off hC rfl rfl rfl rfl hb3 rfl rfl ?_
          refine v_off hC rfl rfl rfl rfl hb3 rfl rfl ?_
          refine v_pick hC rfl rfl rfl (b := false) hb3 rfl rfl rfl trivial ?_
          refine v_op hT hC rfl rfl rfl rfl trivial ?_
          refine v_off hC rfl rfl rfl rfl rfl rfl rfl ?_
          refine v_off hC rfl rfl rfl rfl rfl rfl rfl ?_
          refine v_off hC rfl rfl rfl rfl rfl rfl rfl ?_
          refine v_off hC rfl rfl rfl rfl rfl rfl rfl ?_
          refine v_off hC rfl rfl rfl rfl rfl rfl rfl ?_
          iterate 2 refine v_op hT hC rfl rfl rfl rfl trivial ?_
          refine v_off hC rfl rfl rfl rfl rfl rfl rfl ?_
          refine v_off hC rfl rfl rfl rfl rfl rfl rfl ?_
          refine v_off hC rfl rfl rfl rfl rfl rfl rfl ?_
          refine v_off hC rfl rfl rfl rfl rfl rfl rfl ?_
          refine v_off hC rfl rfl rfl rfl rfl rfl rfl ?_
          iterate 2 refine v_op hT hC rfl rfl rfl rfl trivial ?_
          refine v_off hC rfl rfl rfl rfl rfl rfl rfl ?_
          refine v_off hC rfl rfl rfl rfl rfl rfl rfl ?_
          refine v_off hC rfl rfl rfl rfl rfl rfl rfl ?_
          refine v_off hC rfl rfl rfl rfl rfl rfl rfl ?_
          refine v_off hC rfl rfl rfl rfl rfl rfl rfl ?_
          iterate 2 refine v_op hT hC rfl rfl rfl rfl trivial ?_
          refine v_off hC rfl rfl rfl rfl rfl rfl rfl ?_
          refine v_off hC rfl rfl rfl rfl rfl rfl rfl ?_
          refine v_off hC rfl rfl rfl rfl rfl rfl rfl ?_
          refine v_off hC rfl rfl rfl rfl rfl rfl rfl ?_
          refine v_off hC rfl rfl rfl rfl rfl rfl rfl ?_
          iterate 2 refine v_op hT hC rfl rfl rfl rfl trivial ?_
          refine v_off hC rfl rfl rfl rfl rfl rfl rfl ?_
          refine v_off hC rfl rfl rfl rfl rfl rfl rfl ?_
          refine v_off hC rfl rfl rfl rfl rfl rfl rfl ?_
          refine v_off hC rfl rfl rfl rfl rfl rfl rfl ?_
          refine v_off hC rfl rfl rfl rfl rfl rfl rfl ?_
          iterate 2 refine v_op hT hC rfl rfl rfl rfl trivial ?_
          refine Vc.nil ?_
          injection h with h
          subst h
          refine m_norm ?_
          apply w_conv hC []
          · repeat' first | exact CO.nil | apply CO.gone | apply CO.row rfl rfl | apply CO.box rfl rfl | decide
          · rfl
          · decide
          · rfl
      · refine v_off hC rfl rfl rfl rfl hb2 rfl rfl ?_
        refine v_off hC rfl rfl rfl rfl hb2 rfl rfl ?_
        refine v_off hC rfl rfl rfl rfl hb2 rfl rfl ?_
        refine v_off hC rfl rfl rfl rfl hb2 rfl rfl ?_
        refine v_off hC rfl rfl rfl rfl hb2 rfl rfl ?_
        refine v_pick hC rfl rfl rfl (b := false) hb2 rfl rfl rfl trivial ?_
        refine v_op hT hC rfl rfl rfl rfl trivial ?_
        refine v_off hC rfl rfl rfl rfl rfl rfl rfl ?_
        refine v_off hC rfl rfl rfl rfl rfl rfl rfl ?_
        refine v_off hC rfl rfl rfl rfl rfl rfl rfl ?_
        refine v_off hC rfl rfl rfl rfl rfl rfl rfl ?_
        refine v_off hC rfl rfl rfl rfl rfl rfl rfl ?_
        iterate 2 refine v_op hT hC rfl rfl rfl rfl trivial ?_
        refine v_off hC rfl rfl rfl rfl rfl rfl rfl ?_
        refine v_off hC rfl rfl rfl rfl rfl rfl rfl ?_
        refine v_off hC rfl rfl rfl rfl rfl rfl rfl ?_
        refine v_off hC rfl rfl rfl rfl rfl rfl rfl ?_
        refine v_off hC rfl rfl rfl rfl rfl rfl rfl ?_
        iterate 2 refine v_op hT hC rfl rfl rfl rfl trivial ?_
        refine v_off hC rfl rfl rfl rfl rfl rfl rfl ?_
        refine v_off hC rfl rfl rfl rfl rfl rfl rfl ?_
        refine v_off hC rfl rfl rfl rfl rfl rfl rfl ?_
        refine v_off hC rfl rfl rfl rfl rfl rfl rfl ?_
        refine v_off hC rfl rfl rfl rfl rfl rfl rfl ?_
        iterate 2 refine v_op hT hC rfl rfl rfl rfl trivial ?_
        refine v_off hC rfl rfl rfl rfl rfl rfl rfl ?_
        refine v_off hC rfl rfl rfl rfl rfl rfl rfl ?_
        refine v_off hC rfl rfl rfl rfl rfl rfl rfl ?_
        refine v_off hC rfl rfl rfl rfl rfl rfl rfl ?_
        refine v_off hC rfl rfl rfl rfl rfl rfl rfl ?_
        iterate 2 refine v_op hT hC rfl rfl rfl rfl trivial ?_
        refine v_off hC rfl rfl rfl rfl rfl rfl rfl ?_
        refine v_off hC rfl rfl rfl rfl rfl rfl rfl ?_
        refine v_off hC rfl rfl rfl rfl rfl rfl rfl ?_
        refine v_off hC rfl rfl rfl rfl rfl rfl rfl ?_
        refine v_off hC rfl rfl rfl rfl rfl rfl rfl ?_
        iterate 2 refine v_op hT hC rfl rfl rfl rfl trivial ?_
        refine v_off hC rfl rfl rfl rfl rfl rfl rfl ?_
        refine v_off hC rfl rfl rfl rfl rfl rfl rfl ?_
        refine v_off hC rfl rfl rfl rfl rfl rfl rfl ?_
        refine v_off hC rfl rfl rfl rfl rfl rfl rfl ?_
        refine v_off hC rfl rfl rfl rfl rfl rfl rfl ?_
        iterate 2 refine v_op hT hC rfl rfl rfl rfl trivial ?_
        refine Vc.nil ?_
        injection h with h
        subst h
        refine m_norm ?_
        apply w_conv hC []
        · repeat' first | exact CO.nil | apply CO.gone | apply CO.row rfl rfl | apply CO.box rfl rfl | decide
        · rfl
        · decide
        · rfl
    · refine v_off hC rfl rfl rfl rfl hb1 rfl rfl ?_
      refine v_off hC rfl rfl rfl rfl hb1 rfl rfl ?_
      refine v_off hC rfl rfl rfl rfl hb1 rfl rfl ?_
      refine v_off hC rfl rfl rfl rfl hb1 rfl rfl ?_
      refine v_off hC rfl rfl rfl rfl hb1 rfl rfl ?_
      refine v_pick hC rfl rfl rfl (b := false) hb1 rfl rfl rfl trivial ?_
      refine v_op hT hC rfl rfl rfl rfl trivial ?_
      refine v_off hC rfl rfl rfl rfl rfl rfl rfl ?_
      refine v_off hC rfl rfl rfl rfl rfl rfl rfl ?_
      refine v_off hC rfl rfl rfl rfl rfl rfl rfl ?_
      refine v_off hC rfl rfl rfl rfl rfl rfl rfl ?_
      refine v_off hC rfl rfl rfl rfl rfl rfl rfl ?_
      iterate 2 refine v_op hT hC rfl rfl rfl rfl trivial ?_
      refine v_off hC rfl rfl rfl rfl rfl rfl rfl ?_
      refine v_off hC rfl rfl rfl rfl rfl rfl rfl ?_
      refine v_off hC rfl rfl rfl rfl rfl rfl rfl ?_
      refine v_off hC rfl rfl rfl rfl rfl rfl rfl ?_
      refine v_off hC rfl rfl rfl rfl rfl rfl rfl ?_
      iterate 2 refine v_op hT hC rfl rfl rfl rfl trivial ?_
      refine v_off hC rfl rfl rfl rfl rfl rfl rfl ?_
      refine v_off hC rfl rfl rfl rfl rfl rfl rfl ?_
      refine v_off hC rfl rfl rfl rfl rfl rfl rfl ?_
      refine v_off hC rfl rfl rfl rfl rfl rfl rfl ?_
      refine v_off hC rfl rfl rfl rfl rfl rfl rfl ?_
      iterate 2 refine v_op hT hC rfl rfl rfl rfl trivial ?_
      refine v_off hC rfl rfl rfl rfl rfl rfl rfl ?_
      refine v_off hC rfl rfl rfl rfl rfl rfl rfl ?_
      refine v_off hC rfl rfl rfl rfl rfl rfl rfl ?_
      refine v_off hC rfl rfl rfl rfl rfl rfl rfl ?_
      refine v_off hC rfl rfl rfl rfl rfl rfl rfl ?_
      iterate 2 refine v_op hT hC rfl rfl rfl rfl trivial ?_
      refine v_off hC rfl rfl rfl rfl rfl rfl rfl ?_
      refine v_off hC rfl rfl rfl rfl rfl rfl rfl ?_
      refine v_off hC rfl rfl rfl rfl rfl rfl rfl ?_
      refine v_off hC rfl rfl rfl rfl rfl rfl rfl ?_
      refine v_off hC rfl rfl rfl rfl rfl rfl rfl ?_
      iterate 2 refine v_op hT hC rfl rfl rfl rfl trivial ?_
      refine v_off hC rfl rfl rfl rfl rfl rfl rfl ?_
      refine v_off hC rfl rfl rfl rfl rfl rfl rfl ?_
      refine v_off hC rfl rfl rfl rfl rfl rfl rfl ?_
      refine v_off hC rfl rfl rfl rfl rfl rfl rfl ?_
      refine v_off hC rfl rfl rfl rfl rfl rfl rfl ?_
      iterate 2 refine v_op hT hC rfl rfl rfl rfl trivial ?_
      refine v_off hC rfl rfl rfl rfl rfl rfl rfl ?_
      refine v_off hC rfl rfl rfl rfl rfl rfl rfl ?_
      refine v_off hC rfl rfl rfl rfl rfl rfl rfl ?_
      refine v_off hC rfl rfl rfl rfl rfl rfl rfl ?_
      refine v_off hC rfl rfl rfl rfl rfl rfl rfl ?_
      iterate 2 refine v_op hT hC rfl rfl rfl rfl trivial ?_
      refine Vc.nil ?_
      injection h with h
      subst h
      refine m_norm ?_
      apply w_conv hC []
      · repeat' first | exact CO.nil | apply CO.gone | apply CO.row rfl rfl | apply CO.box rfl rfl | decide
      · rfl
      · decide
      · rfl
  refine aw_ret ?_
  injection h with h
  subst h
  exact ends (Weak.refl _) rfl trivial
def laws_FnQueues_res (r : Bool) : AV := .sv (.bool r)
def laws_FnQueues_obs (r : Bool) : Objs := []
theorem laws_FnQueues_ac {p0 : (List Int)} {r : Bool} (h : laws_FnQueues p0 = some r) : AC Try.prog 11 [.sv (.ints .u8 p0)] [] (laws_FnQueues_res r) (laws_FnQueues_obs r) := by
  refine ac_of_body hT Try.func11 rfl fun C hC => ?_
  unfold laws_FnQueues at h
  refine s_reg ?_
  refine v_op hT hC rfl rfl rfl rfl trivial ?_
  refine Vc.nil ?_
  refine s_in ?_
  refine s_reg ?_
  refine v_op hT hC rfl rfl rfl rfl trivial ?_
  obtain ⟨q1, hq, h⟩ := bnd_some h
  refine v_call hC [] rfl rfl rfl rfl Try.call18 (laws_big_ac hq) rfl (by decide) trivial rfl (.inl rfl) rfl ?_
  refine Vc.nil ?_
  rcases sel_some h with ⟨hb1, h⟩ | ⟨hb1, h⟩
  · refine s_true rfl hb1 ?_
    refine s_reg ?_
    refine v_op hT hC rfl rfl rfl rfl trivial ?_
    refine Vc.nil ?_
    refine aw_ret ?_
    refine t_ret ?_
    injection h with h
    subst h
    exact ends (Weak.refl _) rfl trivial
  · refine s_false rfl hb1 ?_
    refine aw_skip ?_
    refine t_norm ?_
    refine s_reg ?_
    refine v_op hT hC rfl rfl rfl rfl trivial ?_
    obtain ⟨q2, hq, h⟩ := bnd_some h
    refine v_call hC [(16, 400), (17, 401)] rfl rfl rfl rfl Try.call61 (spec_DrawQueue_ac hq) rfl (by decide) trivial rfl (.inl rfl) rfl ?_
    iterate 6 refine v_op hT hC rfl rfl rfl rfl trivial ?_
    refine Vc.nil ?_
    refine s_reg ?_
    refine v_op hT hC rfl rfl rfl rfl trivial ?_
    obtain ⟨q3, hq, h⟩ := bnd_some h
    refine v_call hC [(16, 480), (17, 481)] rfl rfl rfl rfl Try.call61 (spec_DrawQueue_ac hq) rfl (by decide) trivial rfl (.inl rfl) rfl ?_
    iterate 6 refine v_op hT hC rfl rfl rfl rfl trivial ?_
    refine Vc.nil ?_
    refine s_reg ?_
    refine v_op hT hC rfl rfl rfl rfl trivial ?_
    obtain ⟨q4, hq, h⟩ := bnd_some h
    refine v_call hC [(16, 544)] rfl rfl rfl rfl Try.call20 (spec_DrawPlaces_ac hq) rfl (by decide) trivial rfl (.inl rfl) rfl ?_
    refine v_op hT hC rfl rfl rfl rfl trivial ?_
    refine Vc.nil ?_
    refine s_in ?_
    refine s_reg ?_
    refine v_op hT hC rfl rfl rfl rfl trivial ?_
    refine Vc.nil ?_
    refine live [3, 4, 5, 7, 8] [48, 80, 400, 401, 480, 544] (s' := [_, _, _, _, _]) (o' := [_, _, _, _, _, _]) rfl rfl ?_
    obtain ⟨o57, hl, h⟩ := bnd_some h
    refine s_loopR (fun v22 => ([(8, .sv (.int .i64 v22.1))], [(48, some (.box [.sv (.bool v22.2.1), .sv (.int .i64 v22.2.2.1), .sv (.int .i64 v22.2.2.2.1), .own 400, .sv (.int .i64 v22.2.2.2.2.1), .sv (.int .i64 v22.2.2.2.2.2.1), .sv (.int .i64 v22.2.2.2.2.2.2.1), .sv (.int .i64 v22.2.2.2.2.2.2.2.1), .sv (.int .i64 v22.2.2.2.2.2.2.2.2.1)])), (80, some (.box [.sv (.bool v22.2.2.2.2.2.2.2.2.2.1), .sv (.int .i64 v22.2.2.2.2.2.2.2.2.2.2.1), .sv (.int .i64 v22.2.2.2.2.2.2.2.2.2.2.2.1), .own 480, .sv (.int .i64 v22.2.2.2.2.2.2.2.2.2.2.2.2.1), .sv (.int .i64 v22.2.2.2.2.2.2.2.2.2.2.2.2.2.1), .sv (.int .i64 v22.2.2.2.2.2.2.2.2.2.2.2.2.2.2.1), .sv (.int .i64 v22.2.2.2.2.2.2.2.2.2.2.2.2.2.2.2.1), .sv (.int .i64 v22.2.2.2.2.2.2.2.2.2.2.2.2.2.2.2.2.1)])), (400, some (.row cPacket v22.2.2.2.2.2.2.2.2.2.2.2.2.2.2.2.2.2.1)), (480, some (.row cPacket v22.2.2.2.2.2.2.2.2.2.2.2.2.2.2.2.2.2.2))])) (fun v40 => ([(3, .any), (4, .any), (5, .any), (7, .any), (8, .any)], [(48, none), (80, none), (400, none), (401, none), (480, none), (544, none)])) (fun r => EndsA C T Try.f11.results.toList (laws_FnQueues_res r) (laws_FnQueues_obs r)) hl ?_ ?_ ?_ ?_
    · try dsimp only
      apply w_conv hC []
      · repeat' first | exact CO.nil | apply CO.gone | apply CO.row rfl rfl | apply CO.box rfl rfl | decide
      · rfl
      · decide
      · rfl
    · intro v22 s hs
      have h := hs
      unfold laws_FnQueues_l2 at h
      refine s_in ?_
      refine s_reg ?_
      iterate 4 refine v_op hT hC rfl rfl rfl rfl trivial ?_
      refine Vc.nil ?_
      rcases sel_some h with ⟨hb28, h⟩ | ⟨hb28, h⟩
      · refine s_true rfl hb28 ?_
        refine aw_skip ?_
        refine t_norm ?_
        refine live [3, 4, 5, 7, 8] [48, 80, 400, 401, 480, 544] (s' := [_, _, _, _, _]) (o' := [_, _, _, _, _, _]) rfl rfl ?_
        refine aw_joinH h (fun (v41 : (Bool × Int × Int × Int × Int × Int × Int × Int × Bool × Int × Int × Int × Int × Int × Int × Int × (List Packet) × (List Packet))) => ([], [(48, some (.box [.sv (.bool v41.1), .sv (.int .i64 v41.2.1), .sv (.int .i64 v41.2.2.1), .own 2475, .sv (.int .i64 v41.2.2.2.1), .sv (.int .i64 v41.2.2.2.2.1), .sv (.int .i64 v41.2.2.2.2.2.1), .sv (.int .i64 v41.2.2.2.2.2.2.1), .sv (.int .i64 v41.2.2.2.2.2.2.2.1)])), (80, some (.box [.sv (.bool v41.2.2.2.2.2.2.2.2.1), .sv (.int .i64 v41.2.2.2.2.2.2.2.2.2.1), .sv (.int .i64 v41.2.2.2.2.2.2.2.2.2.2.1), .own 2476, .sv (.int .i64 v41.2.2.2.2.2.2.2.2.2.2.2.1), .sv (.int .i64 v41.2.2.2.2.2.2.2.2.2.2.2.2.1), .sv (.int .i64 v41.2.2.2.2.2.2.2.2.2.2.2.2.2.1), .sv (.int .i64 v41.2.2.2.2.2.2.2.2.2.2.2.2.2.2.1), .sv (.int .i64 v41.2.2.2.2.2.2.2.2.2.2.2.2.2.2.2.1)])), (2475, some (.row cPacket v41.2.2.2.2.2.2.2.2.2.2.2.2.2.2.2.2.1)), (2476, some (.row cPacket v41.2.2.2.2.2.2.2.2.2.2.2.2.2.2.2.2.2)), (400, none), (480, none)])) (fun v41 h => ?_) (fun h => ?_)
        · refine aw_region ?_
          iterate 3 refine v_op hT hC rfl rfl rfl rfl trivial ?_
          refine Vc.nil ?_
          injection h with h
          subst h
          refine r_go ?_
          try dsimp only
          apply w_conv hC [(400, 2475), (480, 2476)]
          · repeat' first | exact CO.nil | apply CO.gone | apply CO.row rfl rfl | apply CO.box rfl rfl | decide
          · rfl
          · decide
          · rfl
        refine s_block ?_
        refine s_draw hm ?_
        iterate 3 refine v_op hT hC rfl rfl rfl rfl trivial ?_
        obtain ⟨hq, h⟩ := req_some h
        refine v_op hT hC rfl rfl rfl rfl hq ?_
        obtain ⟨hq, h⟩ := req_some h
        refine v_op hT hC rfl rfl rfl rfl hq ?_
        obtain ⟨q42, hq, h⟩ := bnd_some h
        refine v_call hC [(16, 752)] rfl rfl rfl rfl Try.call66 (impl_QueueIn_ac hq) rfl (by decide) trivial rfl (.inr ⟨rfl, ⟨fun _ => rfl, trivial⟩⟩) rfl ?_
        iterate 6 refine v_op hT hC rfl rfl rfl rfl trivial ?_
        refine Vc.nil ⟨by kernel_rfl, ?_⟩
        refine s_draw hm ?_
        iterate 3 refine v_op hT hC rfl rfl rfl rfl trivial ?_
        obtain ⟨hq, h⟩ := req_some h
        refine v_op hT hC rfl rfl rfl rfl hq ?_
        obtain ⟨hq, h⟩ := req_some h
        refine v_op hT hC rfl rfl rfl rfl hq ?_
        obtain ⟨q43, hq, h⟩ := bnd_some h
        refine v_call hC [(16, 896)] rfl rfl rfl rfl Try.call64 (spec_QueueIn_ac hq) rfl (by decide) trivial rfl (.inr ⟨rfl, ⟨fun _ => rfl, trivial⟩⟩) rfl ?_
        iterate 6 refine v_op hT hC rfl rfl rfl rfl trivial ?_
        refine Vc.nil ⟨by kernel_rfl, ?_⟩
        refine s_in ?_
        refine live [3, 4, 5, 7, 8, 9, 10, 11, 12] [48, 80, 144, 176, 400, 401, 480, 544, 752, 896] (s' := [_, _, _, _, _, _, _, _, _]) (o' := [_, _, _, _, _, _, _, _, _, _]) rfl rfl ?_
        obtain ⟨v44, h1, h⟩ := bnd_some h
        refine aw_to ([(78, .sv (.bool v44)), (12, .any)], []) ?_ ?_
        · have h := h1
          refine aw_region ?_
          iterate 4 refine v_op hT hC rfl rfl rfl rfl trivial ?_
          rcases sel_some h with ⟨hb29, h⟩ | ⟨hb29, h⟩
          · refine v_off hC rfl rfl rfl rfl hb29 rfl rfl ?_
            refine v_off hC rfl rfl rfl rfl hb29 rfl rfl ?_
            refine v_off hC rfl rfl rfl rfl hb29 rfl rfl ?_
            refine v_off hC rfl rfl rfl rfl hb29 rfl rfl ?_
            refine v_pick hC rfl rfl rfl (b := true) hb29 rfl rfl rfl trivial ?_
            refine v_op hT hC rfl rfl rfl rfl trivial ?_
            refine v_off hC rfl rfl rfl rfl rfl rfl rfl ?_
            refine v_off hC rfl rfl rfl rfl rfl rfl rfl ?_
            refine v_off hC rfl rfl rfl rfl rfl rfl rfl ?_
            iterate 2 refine v_op hT hC rfl rfl rfl rfl trivial ?_
            refine v_off hC rfl rfl rfl rfl rfl rfl rfl ?_
            refine v_off hC rfl rfl rfl rfl rfl rfl rfl ?_
            refine v_off hC rfl rfl rfl rfl rfl rfl rfl ?_
            refine v_off hC rfl rfl rfl rfl rfl rfl rfl ?_
            refine v_op hT hC rfl rfl rfl rfl trivial ?_
            refine Vc.nil ?_
            injection h with h
            subst h
            refine m_norm ?_
            apply w_conv hC []
            · repeat' first | exact CO.nil | apply CO.gone | apply CO.row rfl rfl | apply CO.box rfl rfl | decide
            · rfl
            · decide
            · rfl
          · iterate 2 refine v_on hT hC rfl rfl rfl rfl hb29 rfl rfl rfl trivial ?_
            obtain ⟨q45, hq, h⟩ := bnd_some h
            refine v_call_on hC [] rfl rfl rfl rfl hb29 rfl rfl rfl Try.call67 (laws_sameQueue_ac hq) rfl (by decide) trivial rfl (.inr ⟨rfl, trivial⟩) rfl ?_
            refine v_on hT hC rfl rfl rfl rfl hb29 rfl rfl rfl trivial ?_
            refine v_pick hC rfl rfl rfl (b := false) hb29 rfl rfl rfl trivial ?_
            refine v_op hT hC rfl rfl rfl rfl trivial ?_
            rcases sel_some h with ⟨hb30, h⟩ | ⟨hb30, h⟩
            · refine v_on hT hC rfl rfl rfl rfl (congrArg Bool.not hb30) rfl rfl rfl trivial ?_
              obtain ⟨q46, hq, h⟩ := bnd_some h
              refine v_call_on hC [] rfl rfl rfl rfl (congrArg Bool.not hb30) rfl rfl rfl Try.call62 (impl_QueueOk_ac hq) rfl (by decide) trivial rfl (.inr ⟨rfl, trivial⟩) rfl ?_
              refine v_on hT hC rfl rfl rfl rfl (congrArg Bool.not hb30) rfl rfl rfl trivial ?_
              refine v_pick hC rfl rfl rfl (b := false) (congrArg Bool.not hb30) rfl rfl rfl trivial ?_
              refine v_op hT hC rfl rfl rfl rfl trivial ?_
              rcases sel_some h with ⟨hb31, h⟩ | ⟨hb31, h⟩
              · iterate 4 refine v_on hT hC rfl rfl rfl rfl (congrArg Bool.not hb31) rfl rfl rfl trivial ?_
                refine v_pick hC rfl rfl rfl (b := false) (congrArg Bool.not hb31) rfl rfl rfl trivial ?_
                refine Vc.nil ?_
                injection h with h
                subst h
                refine m_norm ?_
                apply w_conv hC []
                · repeat' first | exact CO.nil | apply CO.gone | apply CO.row rfl rfl | apply CO.box rfl rfl | decide
                · rfl
                · decide
                · rfl
              · refine v_off hC rfl rfl rfl rfl (congrArg Bool.not hb31) rfl rfl ?_
                refine v_off hC rfl rfl rfl rfl (congrArg Bool.not hb31) rfl rfl ?_
                refine v_off hC rfl rfl rfl rfl (congrArg Bool.not hb31) rfl rfl ?_
                refine v_off hC rfl rfl rfl rfl (congrArg Bool.not hb31) rfl rfl ?_
                refine v_pick hC rfl rfl rfl (b := true) (congrArg Bool.not hb31) rfl rfl rfl trivial ?_
                refine Vc.nil ?_
                injection h with h
                subst h
                refine m_norm ?_
                apply w_conv hC []
                · repeat' first | exact CO.nil | apply CO.gone | apply CO.row rfl rfl | apply CO.box rfl rfl | decide
                · rfl
                · decide
                · rfl
            · refine v_off hC rfl rfl rfl rfl (congrArg Bool.not hb30) rfl rfl ?_
              refine v_off hC rfl rfl rfl rfl (congrArg Bool.not hb30) rfl rfl ?_
              refine v_off hC rfl rfl rfl rfl (congrArg Bool.not hb30) rfl rfl ?_
              refine v_pick hC rfl rfl rfl (b := true) (congrArg Bool.not hb30) rfl rfl rfl trivial ?_
              refine v_op hT hC rfl rfl rfl rfl trivial ?_
              refine v_off hC rfl rfl rfl rfl rfl rfl rfl ?_
              refine v_off hC rfl rfl rfl rfl rfl rfl rfl ?_
              refine v_off hC rfl rfl rfl rfl rfl rfl rfl ?_
              refine v_off hC rfl rfl rfl rfl rfl rfl rfl ?_
              refine v_op hT hC rfl rfl rfl rfl trivial ?_
              refine Vc.nil ?_
              injection h with h
              subst h
              refine m_norm ?_
              apply w_conv hC []
              · repeat' first | exact CO.nil | apply CO.gone | apply CO.row rfl rfl | apply CO.box rfl rfl | decide
              · rfl
              · decide
              · rfl
        rcases sel_some h with ⟨hb32, h⟩ | ⟨hb32, h⟩
        · refine s_true rfl hb32 ?_
          refine s_reg ?_
          refine v_op hT hC rfl rfl rfl rfl trivial ?_
          refine Vc.nil ?_
          refine aw_ret ?_
          refine t_ret ?_
          refine b_ret ?_
          refine j_ret ?_
          injection h with h
          subst h
          refine r_ret ?_
          refine o_ret ?_
          exact ends (Weak.refl _) rfl trivial
        · refine s_false rfl hb32 ?_
          refine aw_skip ?_
          refine t_norm ?_
          refine live [3, 4, 5, 7, 8, 9, 10, 11] [48, 80, 144, 176, 400, 401, 480, 544, 752, 896] (s' := [_, _, _, _, _, _, _, _]) (o' := [_, _, _, _, _, _, _, _, _, _]) rfl rfl ?_
          refine aw_joinH h (fun (v47 : Unit) => ([(10, .any)], [])) (fun v47 h => ?_) (fun h => ?_)
          · refine s_reg ?_
            iterate 2 refine v_op hT hC rfl rfl rfl rfl trivial ?_
            refine Vc.nil ?_
            refine s_reg ?_
            iterate 2 refine v_op hT hC rfl rfl rfl rfl trivial ?_
            refine Vc.nil ?_
            refine s_reg ?_
            iterate 2 refine v_op hT hC rfl rfl rfl rfl trivial ?_
            obtain ⟨hq, h⟩ := req_some h
            refine v_op hT hC rfl rfl rfl rfl hq ?_
            obtain ⟨hq, h⟩ := req_some h
            refine v_op hT hC rfl rfl rfl rfl hq ?_
            obtain ⟨hq, h⟩ := req_some h
            refine v_op hT hC rfl rfl rfl rfl hq ?_
            obtain ⟨hq, h⟩ := req_some h
            refine v_op hT hC rfl rfl rfl rfl hq ?_
            refine v_op hT hC rfl rfl rfl rfl trivial ?_
            refine Vc.nil ?_
            rcases sel_some h with ⟨hb36, h⟩ | ⟨hb36, h⟩
            · refine s_true rfl hb36 ?_
              refine s_draw hm ?_
              iterate 2 refine v_op hT hC rfl rfl rfl rfl trivial ?_
              obtain ⟨hq, h⟩ := req_some h
              refine v_op hT hC rfl rfl rfl rfl hq ?_
              obtain ⟨hq, h⟩ := req_some h
              refine v_op hT hC rfl rfl rfl rfl hq ?_
              obtain ⟨hq, h⟩ := req_some h
              refine v_op hT hC rfl rfl rfl rfl hq ?_
              obtain ⟨q51, hq, h⟩ := bnd_some h
              refine v_call hC [(16, 1872), (17, 1873)] rfl rfl rfl rfl Try.call56 (impl_QueueTick_ac hq) rfl (by decide) trivial rfl (.inr ⟨rfl, ⟨fun _ => rfl, fun _ => rfl, trivial⟩⟩) rfl ?_
              iterate 8 refine v_op hT hC rfl rfl rfl rfl trivial ?_
              refine Vc.nil ⟨by kernel_rfl, ?_⟩
              refine s_draw hm ?_
              iterate 2 refine v_op hT hC rfl rfl rfl rfl trivial ?_
              obtain ⟨hq, h⟩ := req_some h
              refine v_op hT hC rfl rfl rfl rfl hq ?_
              obtain ⟨hq, h⟩ := req_some h
              refine v_op hT hC rfl rfl rfl rfl hq ?_
              obtain ⟨hq, h⟩ := req_some h
              refine v_op hT hC rfl rfl rfl rfl hq ?_
              obtain ⟨q52, hq, h⟩ := bnd_some h
              refine v_call hC [(16, 2032), (17, 2033)] rfl rfl rfl rfl Try.call54 (spec_QueueTick_ac hq) rfl (by decide) trivial rfl (.inr ⟨rfl, ⟨fun _ => rfl, fun _ => rfl, trivial⟩⟩) rfl ?_
              iterate 8 refine v_op hT hC rfl rfl rfl rfl trivial ?_
              refine Vc.nil ⟨by kernel_rfl, ?_⟩
              refine s_in ?_
              refine live [3, 4, 5, 7, 8, 15, 16, 17, 18, 19, 20] [48, 80, 240, 288, 401, 544, 752, 896, 1872, 1873, 2032, 2033] (s' := [_, _, _, _, _, _, _, _, _, _, _]) (o' := [_, _, _, _, _, _, _, _, _, _, _, _]) rfl rfl ?_
              obtain ⟨v53, h1, h⟩ := bnd_some h
              refine aw_to ([(150, .sv (.bool v53)), (16, .any), (17, .any), (19, .any), (20, .any)], [(1873, none), (2033, none)]) ?_ ?_
              · have h := h1
                refine aw_region ?_
                iterate 4 refine v_op hT hC rfl rfl rfl rfl trivial ?_
                rcases sel_some h with ⟨hb37, h⟩ | ⟨hb37, h⟩
                · refine v_off hC rfl rfl rfl rfl hb37 rfl rfl ?_
                  refine v_off hC rfl rfl rfl rfl hb37 rfl rfl ?_
                  refine v_off hC rfl rfl rfl rfl hb37 rfl rfl ?_
                  refine v_off hC rfl rfl rfl rfl hb37 rfl rfl ?_
                  refine v_pick hC rfl rfl rfl (b := true) hb37 rfl rfl rfl trivial ?_
                  refine v_op hT hC rfl rfl rfl rfl trivial ?_
                  refine v_off hC rfl rfl rfl rfl rfl rfl rfl ?_
                  refine v_off hC rfl rfl rfl rfl rfl rfl rfl ?_
                  refine v_off hC rfl rfl rfl rfl rfl rfl rfl ?_
                  refine v_off hC rfl rfl rfl rfl rfl rfl rfl ?_
                  iterate 2 refine v_op hT hC rfl rfl rfl rfl trivial ?_
                  refine v_off hC rfl rfl rfl rfl rfl rfl rfl ?_
                  refine v_off hC rfl rfl rfl rfl rfl rfl rfl ?_
                  refine v_off hC rfl rfl rfl rfl rfl rfl rfl ?_
                  refine v_op hT hC rfl rfl rfl rfl trivial ?_
                  refine Vc.nil ?_
                  injection h with h
                  subst h
                  refine m_norm ?_
                  apply w_conv hC []
                  · repeat' first | exact CO.nil | apply CO.gone | apply CO.row rfl rfl | apply CO.box rfl rfl | decide
                  · rfl
                  · decide
                  · rfl
                · iterate 2 refine v_on hT hC rfl rfl rfl rfl hb37 rfl rfl rfl trivial ?_
                  obtain ⟨q54, hq, h⟩ := bnd_some h
                  refine v_call_on hC [] rfl rfl rfl rfl hb37 rfl rfl rfl Try.call68 (laws_samePackets_ac hq) rfl (by decide) trivial rfl (.inr ⟨rfl, trivial⟩) rfl ?_
                  refine v_on hT hC rfl rfl rfl rfl hb37 rfl rfl rfl trivial ?_
                  refine v_pick hC rfl rfl rfl (b := false) hb37 rfl rfl rfl trivial ?_
                  refine v_op hT hC rfl rfl rfl rfl trivial ?_
                  rcases sel_some h with ⟨hb38, h⟩ | ⟨hb38, h⟩
                  · iterate 2 refine v_on hT hC rfl rfl rfl rfl (congrArg Bool.not hb38) rfl rfl rfl trivial ?_
                    obtain ⟨q55, hq, h⟩ := bnd_some h
                    refine v_call_on hC [] rfl rfl rfl rfl (congrArg Bool.not hb38) rfl rfl rfl Try.call67 (laws_sameQueue_ac hq) rfl (by decide) trivial rfl (.inr ⟨rfl, trivial⟩) rfl ?_
                    refine v_on hT hC rfl rfl rfl rfl (congrArg Bool.not hb38) rfl rfl rfl trivial ?_
                    refine v_pick hC rfl rfl rfl (b := false) (congrArg Bool.not hb38) rfl rfl rfl trivial ?_
                    refine v_op hT hC rfl rfl rfl rfl trivial ?_
                    rcases sel_some h with ⟨hb39, h⟩ | ⟨hb39, h⟩
                    · refine v_on hT hC rfl rfl rfl rfl (congrArg Bool.not hb39) rfl rfl rfl trivial ?_
                      obtain ⟨q56, hq, h⟩ := bnd_some h
                      refine v_call_on hC [] rfl rfl rfl rfl (congrArg Bool.not hb39) rfl rfl rfl Try.call62 (impl_QueueOk_ac hq) rfl (by decide) trivial rfl (.inr ⟨rfl, trivial⟩) rfl ?_
                      refine v_on hT hC rfl rfl rfl rfl (congrArg Bool.not hb39) rfl rfl rfl trivial ?_
                      refine v_pick hC rfl rfl rfl (b := false) (congrArg Bool.not hb39) rfl rfl rfl trivial ?_
                      refine Vc.nil ?_
                      injection h with h
                      subst h
                      refine m_norm ?_
                      apply w_conv hC []
                      · repeat' first | exact CO.nil | apply CO.gone | apply CO.row rfl rfl | apply CO.box rfl rfl | decide
                      · rfl
                      · decide
                      · rfl
                    · refine v_off hC rfl rfl rfl rfl (congrArg Bool.not hb39) rfl rfl ?_
                      refine v_off hC rfl rfl rfl rfl (congrArg Bool.not hb39) rfl rfl ?_
                      refine v_off hC rfl rfl rfl rfl (congrArg Bool.not hb39) rfl rfl ?_
                      refine v_pick hC rfl rfl rfl (b := true) (congrArg Bool.not hb39) rfl rfl rfl trivial ?_
                      refine Vc.nil ?_
                      injection h with h
                      subst h
                      refine m_norm ?_
                      apply w_conv hC []
                      · repeat' first | exact CO.nil | apply CO.gone | apply CO.row rfl rfl | apply CO.box rfl rfl | decide
                      · rfl
                      · decide
                      · rfl
                  · refine v_off hC rfl rfl rfl rfl (congrArg Bool.not hb38) rfl rfl ?_
                    refine v_off hC rfl rfl rfl rfl (congrArg Bool.not hb38) rfl rfl ?_
                    refine v_off hC rfl rfl rfl rfl (congrArg Bool.not hb38) rfl rfl ?_
                    refine v_off hC rfl rfl rfl rfl (congrArg Bool.not hb38) rfl rfl ?_
                    refine v_pick hC rfl rfl rfl (b := true) (congrArg Bool.not hb38) rfl rfl rfl trivial ?_
                    refine v_op hT hC rfl rfl rfl rfl trivial ?_
                    refine v_off hC rfl rfl rfl rfl rfl rfl rfl ?_
                    refine v_off hC rfl rfl rfl rfl rfl rfl rfl ?_
                    refine v_off hC rfl rfl rfl rfl rfl rfl rfl ?_
                    refine v_op hT hC rfl rfl rfl rfl trivial ?_
                    refine Vc.nil ?_
                    injection h with h
                    subst h
                    refine m_norm ?_
                    apply w_conv hC []
                    · repeat' first | exact CO.nil | apply CO.gone | apply CO.row rfl rfl | apply CO.box rfl rfl | decide
                    · rfl
                    · decide
                    · rfl
              rcases sel_some h with ⟨hb40, h⟩ | ⟨hb40, h⟩
              · refine s_true rfl hb40 ?_
                refine s_reg ?_
                refine v_op hT hC rfl rfl rfl rfl trivial ?_
                refine Vc.nil ?_
                refine aw_ret ?_
                refine t_ret ?_
                refine b_ret ?_
                refine j_ret ?_
                injection h with h
                subst h
                refine r_ret ?_
                refine o_ret ?_
                exact ends (Weak.refl _) rfl trivial
              · refine s_false rfl hb40 ?_
                refine aw_skip ?_
                refine t_norm ?_
                refine s_reg ?_
                iterate 2 refine v_op hT hC rfl rfl rfl rfl trivial ?_
                refine Vc.nil ?_
                refine aw_region ?_
                iterate 2 refine v_op hT hC rfl rfl rfl rfl trivial ?_
                refine Vc.nil ?_
                refine b_norm ?_
                refine j_norm (q51.1.Begun, q51.1.Next, q51.1.Age, q51.1.Late, q51.1.Far, q51.1.Twice, q51.1.Over, q51.1.Lost, q52.1.Begun, q52.1.Next, q52.1.Age, q52.1.Late, q52.1.Far, q52.1.Twice, q52.1.Over, q52.1.Lost, q51.1.Held, q52.1.Held) h ?_
                try dsimp only
                apply w_conv hC [(2475, 1872), (2476, 2032)]
                · repeat' first | exact CO.nil | apply CO.gone | apply CO.row rfl rfl | apply CO.box rfl rfl | decide
                · rfl
                · decide
                · rfl
            · refine s_false rfl hb36 ?_
              refine aw_skip ?_
              refine b_norm ?_
              refine j_norm (q42.1.Begun, q42.1.Next, q42.1.Age, q42.1.Late, q42.1.Far, q42.1.Twice, q42.1.Over, q42.1.Lost, q43.1.Begun, q43.1.Next, q43.1.Age, q43.1.Late, q43.1.Far, q43.1.Twice, q43.1.Over, q43.1.Lost, q42.1.Held, q43.1.Held) h ?_
              try dsimp only
              apply w_conv hC [(2475, 752), (2476, 896)]
              · repeat' first | exact CO.nil | apply CO.gone | apply CO.row rfl rfl | apply CO.box rfl rfl | decide
              · rfl
              · decide
              · rfl
          refine s_reg ?_
          iterate 2 refine v_op hT hC rfl rfl rfl rfl trivial ?_
          refine Vc.nil ?_
          rcases sel_some h with ⟨hb33, h⟩ | ⟨hb33, h⟩
          · refine s_true rfl hb33 ?_
            refine s_draw hm ?_
            iterate 3 refine v_op hT hC rfl rfl rfl rfl trivial ?_
            obtain ⟨hq, h⟩ := req_some h
            refine v_op hT hC rfl rfl rfl rfl hq ?_
            obtain ⟨hq, h⟩ := req_some h
            refine v_op hT hC rfl rfl rfl rfl hq ?_
            obtain ⟨q48, hq, h⟩ := bnd_some h
            refine v_call hC [(16, 1392)] rfl rfl rfl rfl Try.call66 (impl_QueueIn_ac hq) rfl (by decide) trivial rfl (.inr ⟨rfl, ⟨fun _ => rfl, trivial⟩⟩) rfl ?_
            iterate 6 refine v_op hT hC rfl rfl rfl rfl trivial ?_
            refine Vc.nil ⟨by kernel_rfl, ?_⟩
            refine s_reg ?_
            iterate 5 refine v_op hT hC rfl rfl rfl rfl trivial ?_
            refine Vc.nil ?_
            refine live [3, 4, 5, 7, 8, 9, 11, 13, 14] [48, 80, 144, 176, 208, 400, 401, 480, 544, 752, 896, 1392] (s' := [_, _, _, _, _, _, _, _, _]) (o' := [_, _, _, _, _, _, _, _, _, _, _, _]) rfl rfl ?_
            obtain ⟨v49, h1, h⟩ := bnd_some h
            refine aw_to ([(101, .sv (.bool v49)), (13, .any), (14, .any)], [(208, none), (1392, none)]) ?_ ?_
            · have h := h1
              refine aw_region ?_
              iterate 3 refine v_op hT hC rfl rfl rfl rfl trivial ?_
              rcases sel_some h with ⟨hb34, h⟩ | ⟨hb34, h⟩
              · refine v_off hC rfl rfl rfl rfl hb34 rfl rfl ?_
                refine v_off hC rfl rfl rfl rfl hb34 rfl rfl ?_
                refine v_off hC rfl rfl rfl rfl hb34 rfl rfl ?_
                refine v_off hC rfl rfl rfl rfl hb34 rfl rfl ?_
                refine v_pick hC rfl rfl rfl (b := true) hb34 rfl rfl rfl trivial ?_
                refine Vc.nil ?_
                injection h with h
                subst h
                refine m_norm ?_
                apply w_conv hC []
                · repeat' first | exact CO.nil | apply CO.gone | apply CO.row rfl rfl | apply CO.box rfl rfl | decide
                · rfl
                · decide
                · rfl
              · iterate 2 refine v_on hT hC rfl rfl rfl rfl hb34 rfl rfl rfl trivial ?_
                obtain ⟨q50, hq, h⟩ := bnd_some h
                refine v_call_on hC [] rfl rfl rfl rfl hb34 rfl rfl rfl Try.call67 (laws_sameQueue_ac hq) rfl (by decide) trivial rfl (.inr ⟨rfl, trivial⟩) rfl ?_
                refine v_on hT hC rfl rfl rfl rfl hb34 rfl rfl rfl trivial ?_
                refine v_pick hC rfl rfl rfl (b := false) hb34 rfl rfl rfl trivial ?_
                refine Vc.nil ?_
                injection h with h
                subst h
                refine m_norm ?_
                apply w_conv hC []
                · repeat' first | exact CO.nil | apply CO.gone | apply CO.row rfl rfl | apply CO.box rfl rfl | decide
                · rfl
                · decide
                · rfl
            rcases sel_some h with ⟨hb35, h⟩ | ⟨hb35, h⟩
            · refine s_true rfl hb35 ?_
              refine s_reg ?_
              refine v_op hT hC rfl rfl rfl rfl trivial ?_
              refine Vc.nil ?_
              refine aw_ret ?_
              refine j_ret ?_
              refine b_ret ?_
              refine j_ret ?_
              injection h with h
              subst h
              refine r_ret ?_
              refine o_ret ?_
              exact ends (Weak.refl _) rfl trivial
            · refine s_false rfl hb35 ?_
              refine aw_skip ?_
              refine j_norm () h ?_
              apply w_conv hC []
              · repeat' first | exact CO.nil | apply CO.gone | apply CO.row rfl rfl | apply CO.box rfl rfl | decide
              · rfl
              · decide
              · rfl
          · refine s_false rfl hb33 ?_
            refine aw_skip ?_
            refine j_norm () h ?_
            apply w_conv hC []
            · repeat' first | exact CO.nil | apply CO.gone | apply CO.row rfl rfl | apply CO.box rfl rfl | decide
            · rfl
            · decide
            · rfl
      · refine s_false rfl hb28 ?_
        refine aw_exit ?_
        refine t_exit ?_
        injection h with h
        subst h
        refine r_exit ?_
        refine o_both ?_
        apply w_conv hC []
        · repeat' first | exact CO.nil | apply CO.gone | apply CO.row rfl rfl | apply CO.box rfl rfl | decide
        · rfl
        · decide
        · rfl
    · intro v40 e
      subst e
      refine t_norm ?_
      refine s_reg ?_
      refine v_op hT hC rfl rfl rfl rfl trivial ?_
      refine Vc.nil ?_
      refine aw_ret ?_
      injection h with h
      subst h
      exact ends (Weak.refl _) rfl trivial
    · intro r' σ' e hE
      subst e
      injection h with h
      subst h
      refine t_ret ?_
      exact hE
end
end Go.Proofs.Ytplmeeookgefnaa.A
