/- Contracts of the functions that the law FnExactQueueIn reaches, part 1: each comes to what its pure function tells. Written by a program of this session. Conditions: as each statement tells. -/
import Derived.Test.YtplmeeookgefnaaFFnExactQueueInx0
namespace Go.Proofs.Ytplmeeookgefnaa.A
open Go Go.Proofs Go.Proofs.YtplmeeookgefnaaAL Go.RowKit
set_option linter.unusedVariables false
set_option linter.unusedSimpArgs false
set_option maxRecDepth 100000
set_option maxHeartbeats 2000000
noncomputable section
def impl_QueueIn_res (r : (Queue × Int)) : AV := .tup [.agg [.sv (.bool r.1.Begun), .sv (.int .i64 r.1.Next), .sv (.int .i64 r.1.Age), .own 16, .sv (.int .i64 r.1.Late), .sv (.int .i64 r.1.Far), .sv (.int .i64 r.1.Twice), .sv (.int .i64 r.1.Over), .sv (.int .i64 r.1.Lost)], .sv (.int .i64 r.2)]
def impl_QueueIn_obs (r : (Queue × Int)) : Objs := [(16, .row cPacket r.1.Held)]
theorem impl_QueueIn_ac {p0 : Queue} {p1 : Packet} {r : (Queue × Int)} (h : impl_QueueIn p0 p1 = some r) : AC Try.prog 66 [.agg [.sv (.bool p0.Begun), .sv (.int .i64 p0.Next), .sv (.int .i64 p0.Age), .sv (cPacket.sv p0.Held), .sv (.int .i64 p0.Late), .sv (.int .i64 p0.Far), .sv (.int .i64 p0.Twice), .sv (.int .i64 p0.Over), .sv (.int .i64 p0.Lost)], .agg [.sv (.int .i64 p1.Seq), .sv (.bool p1.First), .sv (.bool p1.Last), .sv (.str p1.Bytes)]] [] (impl_QueueIn_res r) (impl_QueueIn_obs r) := by
  refine ac_of_body hT Try.func66 rfl fun C hC => ?_
  unfold impl_QueueIn at h
  refine s_reg ?_
  iterate 4 refine v_op hT hC rfl rfl rfl rfl trivial ?_
  refine Vc.nil ?_
  refine s_reg ?_
  refine v_op hT hC rfl rfl rfl rfl trivial ?_
  obtain ⟨q1, hq, h⟩ := bnd_some h
  refine v_call hC [(16, 160)] rfl rfl rfl rfl Try.call140 (impl_copyQueue_ac hq) rfl (by decide) trivial rfl (.inl rfl) rfl ?_
  iterate 2 refine v_op hT hC rfl rfl rfl rfl trivial ?_
  refine Vc.nil ?_
  refine s_in ?_
  refine s_block ?_
  refine s_reg ?_
  refine v_op hT hC rfl rfl rfl rfl trivial ?_
  obtain ⟨q2, hq, h⟩ := bnd_some h
  refine v_call hC [] rfl rfl rfl rfl Try.call62 (impl_QueueOk_ac hq) rfl (by decide) trivial rfl (.inl rfl) rfl ?_
  iterate 2 refine v_op hT hC rfl rfl rfl rfl trivial ?_
  refine Vc.nil ?_
  rcases sel_some h with ⟨hb1, h⟩ | ⟨hb1, h⟩
  · refine s_true rfl hb1 ?_
    refine s_reg ?_
    iterate 3 refine v_op hT hC rfl rfl rfl rfl trivial ?_
    refine Vc.nil ?_
    refine aw_ret ?_
    refine b_ret ?_
    refine t_ret ?_
    injection h with h
    subst h
    refine ends (τ := ⟨[(4, .ptr 2000000 0), (5, .sv (.int .i64 1))], [(16, some (.row cPacket q1.Held)), (2000000, some (.box [.sv (.bool q1.Begun), .sv (.int .i64 q1.Next), .sv (.int .i64 q1.Age), .own 16, .sv (.int .i64 q1.Late), .sv (.int .i64 q1.Far), .sv (.int .i64 q1.Twice), .sv (.int .i64 q1.Over), .sv (.int .i64 q1.Lost)]))]⟩) ?_ rfl ⟨rfl, trivial⟩
    apply w_conv hC [(16, 160), (2000000, 64)]
    · repeat' first | exact CO.nil | apply CO.gone | apply CO.row rfl rfl | apply CO.box rfl rfl | decide
    · rfl
    · decide
    · rfl
  · refine s_false rfl hb1 ?_
    refine s_reg ?_
    refine v_op hT hC rfl rfl rfl rfl trivial ?_
    obtain ⟨q3, hq, h⟩ := bnd_some h
    refine v_call hC [] rfl rfl rfl rfl Try.call127 (impl_PacketOk_ac hq) rfl (by decide) trivial rfl (.inl rfl) rfl ?_
    iterate 2 refine v_op hT hC rfl rfl rfl rfl trivial ?_
    refine Vc.nil ?_
    rcases sel_some h with ⟨hb2, h⟩ | ⟨hb2, h⟩
    · refine s_true rfl hb2 ?_
      refine s_reg ?_
      iterate 3 refine v_op hT hC rfl rfl rfl rfl trivial ?_
      refine Vc.nil ?_
      refine aw_ret ?_
      refine b_ret ?_
      refine t_ret ?_
      injection h with h
      subst h
      refine ends (τ := ⟨[(4, .ptr 2000000 0), (5, .sv (.int .i64 2))], [(16, some (.row cPacket q1.Held)), (2000000, some (.box [.sv (.bool q1.Begun), .sv (.int .i64 q1.Next), .sv (.int .i64 q1.Age), .own 16, .sv (.int .i64 q1.Late), .sv (.int .i64 q1.Far), .sv (.int .i64 q1.Twice), .sv (.int .i64 q1.Over), .sv (.int .i64 q1.Lost)]))]⟩) ?_ rfl ⟨rfl, trivial⟩
      apply w_conv hC [(16, 160), (2000000, 64)]
      · repeat' first | exact CO.nil | apply CO.gone | apply CO.row rfl rfl | apply CO.box rfl rfl | decide
      · rfl
      · decide
      · rfl
    · refine s_false rfl hb2 ?_
      refine s_reg ?_
      iterate 4 refine v_op hT hC rfl rfl rfl rfl trivial ?_
      refine Vc.nil ?_
      rcases sel_some h with ⟨hb3, h⟩ | ⟨hb3, h⟩
      · refine s_true rfl hb3 ?_
        refine s_reg ?_
        iterate 2 refine v_op hT hC rfl rfl rfl rfl trivial ?_
        refine Vc.nil ?_
        refine s_reg ?_
        iterate 4 refine v_op hT hC rfl rfl rfl rfl trivial ?_
        refine Vc.nil ?_
        refine s_reg ?_
        iterate 4 refine v_op hT hC rfl rfl rfl rfl trivial ?_
        refine Vc.nil ?_
        refine s_reg ?_
        iterate 3 refine v_op hT hC rfl rfl rfl rfl trivial ?_
        refine Vc.nil ?_
        refine aw_ret ?_
        refine b_ret ?_
        refine t_ret ?_
        injection h with h
        subst h
        refine ends (τ := ⟨[(4, .ptr 2000000 0), (5, .sv (.int .i64 0))], [(16, some (.row cPacket ([p1]))), (2000000, some (.box [.sv (.bool true), .sv (.int .i64 p1.Seq), .sv (.int .i64 q1.Age), .own 16, .sv (.int .i64 q1.Late), .sv (.int .i64 q1.Far), .sv (.int .i64 q1.Twice), .sv (.int .i64 q1.Over), .sv (.int .i64 q1.Lost)]))]⟩) ?_ rfl ⟨rfl, trivial⟩
        apply w_conv hC [(16, 480), (2000000, 64)]
        · repeat' first | exact CO.nil | apply CO.gone | apply CO.row rfl rfl | apply CO.box rfl rfl | decide
        · rfl
        · decide
        · rfl
      · refine s_false rfl hb3 ?_
        refine aw_skip ?_
        refine b_norm ?_
        refine t_norm ?_
        refine s_reg ?_
        iterate 4 refine v_op hT hC rfl rfl rfl rfl trivial ?_
        obtain ⟨q4, hq, h⟩ := bnd_some h
        refine v_call hC [] rfl rfl rfl rfl Try.call145 (impl_SeqGap_ac hq) rfl (by decide) trivial rfl (.inl rfl) rfl ?_
        refine v_op hT hC rfl rfl rfl rfl trivial ?_
        refine Vc.nil ?_
        refine s_in ?_
        refine s_block ?_
        refine live [2, 3, 4, 6, 7] [32, 48, 64, 96, 160] (s' := [_, _, _, _, _]) (o' := [_, _, _, _, _]) rfl rfl ?_
        obtain ⟨v5, h1, h⟩ := bnd_some h
        refine aw_to ([(38, .sv (.bool v5))], []) ?_ ?_
        · have h := h1
          refine aw_region ?_
          iterate 3 refine v_op hT hC rfl rfl rfl rfl trivial ?_
          rcases sel_some h with ⟨hb4, h⟩ | ⟨hb4, h⟩
          · refine v_off hC rfl rfl rfl rfl hb4 rfl rfl ?_
            refine v_off hC rfl rfl rfl rfl hb4 rfl rfl ?_
            refine v_pick hC rfl rfl rfl (b := true) hb4 rfl rfl rfl trivial ?_
            refine v_op hT hC rfl rfl rfl rfl trivial ?_
            refine Vc.nil ?_
            injection h with h
            subst h
            refine m_norm ?_
            apply w_conv hC []
            · repeat' first | exact CO.nil | apply CO.gone | apply CO.row rfl rfl | apply CO.box rfl rfl | decide
            · rfl
            · decide
            · rfl
          · iterate 2 refine v_on hT hC rfl rfl rfl rfl hb4 rfl rfl rfl trivial ?_
            refine v_pick hC rfl rfl rfl (b := false) hb4 rfl rfl rfl trivial ?_
            refine v_op hT hC rfl rfl rfl rfl trivial ?_
            refine Vc.nil ?_
            injection h with h
            subst h
            refine m_norm ?_
            apply w_conv hC []
            · repeat' first | exact CO.nil | apply CO.gone | apply CO.row rfl rfl | apply CO.box rfl rfl | decide
            · rfl
            · decide
            · rfl
        rcases sel_some h with ⟨hb5, h⟩ | ⟨hb5, h⟩
        · refine s_true rfl hb5 ?_
          refine s_reg ?_
          iterate 2 refine v_op hT hC rfl rfl rfl rfl trivial ?_
          obtain ⟨q6, hq, h⟩ := bnd_some h
          refine v_call hC [] rfl rfl rfl rfl Try.call141 (impl_counted_ac hq) rfl (by decide) trivial rfl (.inl rfl) rfl ?_
          iterate 2 refine v_op hT hC rfl rfl rfl rfl trivial ?_
          refine Vc.nil ?_
          refine s_reg ?_
          iterate 4 refine v_op hT hC rfl rfl rfl rfl trivial ?_
          refine Vc.nil ?_
          refine s_reg ?_
          iterate 4 refine v_op hT hC rfl rfl rfl rfl trivial ?_
          refine Vc.nil ?_
          refine s_reg ?_
          iterate 2 refine v_op hT hC rfl rfl rfl rfl trivial ?_
          refine Vc.nil ?_
          refine s_reg ?_
          iterate 3 refine v_op hT hC rfl rfl rfl rfl trivial ?_
          refine Vc.nil ?_
          refine aw_ret ?_
          refine b_ret ?_
          refine t_ret ?_
          injection h with h
          subst h
          refine ends (τ := ⟨[(4, .ptr 2000000 0), (5, .sv (.int .i64 4))], [(16, some (.row cPacket ([p1]))), (2000000, some (.box [.sv (.bool q1.Begun), .sv (.int .i64 p1.Seq), .sv (.int .i64 0), .own 16, .sv (.int .i64 q1.Late), .sv (.int .i64 q6), .sv (.int .i64 q1.Twice), .sv (.int .i64 q1.Over), .sv (.int .i64 q1.Lost)]))]⟩) ?_ rfl ⟨rfl, trivial⟩
          apply w_conv hC [(16, 848), (2000000, 64)]
          · repeat' first | exact CO.nil | apply CO.gone | apply CO.row rfl rfl | apply CO.box rfl rfl | decide
          · rfl
          · decide
          · rfl
        · refine s_false rfl hb5 ?_
          refine s_reg ?_
          iterate 3 refine v_op hT hC rfl rfl rfl rfl trivial ?_
          refine Vc.nil ?_
          rcases sel_some h with ⟨hb6, h⟩ | ⟨hb6, h⟩
          · refine s_true rfl hb6 ?_
            refine s_reg ?_
            iterate 2 refine v_op hT hC rfl rfl rfl rfl trivial ?_
            obtain ⟨q7, hq, h⟩ := bnd_some h
            refine v_call hC [] rfl rfl rfl rfl Try.call141 (impl_counted_ac hq) rfl (by decide) trivial rfl (.inl rfl) rfl ?_
            iterate 2 refine v_op hT hC rfl rfl rfl rfl trivial ?_
            refine Vc.nil ?_
            refine s_reg ?_
            iterate 3 refine v_op hT hC rfl rfl rfl rfl trivial ?_
            refine Vc.nil ?_
            refine aw_ret ?_
            refine b_ret ?_
            refine t_ret ?_
            injection h with h
            subst h
            refine ends (τ := ⟨[(4, .ptr 2000000 0), (5, .sv (.int .i64 3))], [(16, some (.row cPacket q1.Held)), (2000000, some (.box [.sv (.bool q1.Begun), .sv (.int .i64 q1.Next), .sv (.int .i64 q1.Age), .own 16, .sv (.int .i64 q7), .sv (.int .i64 q1.Far), .sv (.int .i64 q1.Twice), .sv (.int .i64 q1.Over), .sv (.int .i64 q1.Lost)]))]⟩) ?_ rfl ⟨rfl, trivial⟩
            apply w_conv hC [(16, 160), (2000000, 64)]
            · repeat' first | exact CO.nil | apply CO.gone | apply CO.row rfl rfl | apply CO.box rfl rfl | decide
            · rfl
            · decide
            · rfl
          · refine s_false rfl hb6 ?_
            refine s_reg ?_
            iterate 3 refine v_op hT hC rfl rfl rfl rfl trivial ?_
            obtain ⟨q8, hq, h⟩ := bnd_some h
            refine v_call hC [] rfl rfl rfl rfl Try.call149 (impl_QueueHas_ac hq) rfl (by decide) trivial rfl (.inl rfl) rfl ?_
            refine v_op hT hC rfl rfl rfl rfl trivial ?_
            refine Vc.nil ?_
            rcases sel_some h with ⟨hb7, h⟩ | ⟨hb7, h⟩
            · refine s_true rfl hb7 ?_
              refine s_reg ?_
              iterate 2 refine v_op hT hC rfl rfl rfl rfl trivial ?_
              obtain ⟨q9, hq, h⟩ := bnd_some h
              refine v_call hC [] rfl rfl rfl rfl Try.call141 (impl_counted_ac hq) rfl (by decide) trivial rfl (.inl rfl) rfl ?_
              iterate 2 refine v_op hT hC rfl rfl rfl rfl trivial ?_
              refine Vc.nil ?_
              refine s_reg ?_
              iterate 3 refine v_op hT hC rfl rfl rfl rfl trivial ?_
              refine Vc.nil ?_
              refine aw_ret ?_
              refine b_ret ?_
              refine t_ret ?_
              injection h with h
              subst h
              refine ends (τ := ⟨[(4, .ptr 2000000 0), (5, .sv (.int .i64 5))], [(16, some (.row cPacket q1.Held)), (2000000, some (.box [.sv (.bool q1.Begun), .sv (.int .i64 q1.Next), .sv (.int .i64 q1.Age), .own 16, .sv (.int .i64 q1.Late), .sv (.int .i64 q1.Far), .sv (.int .i64 q9), .sv (.int .i64 q1.Over), .sv (.int .i64 q1.Lost)]))]⟩) ?_ rfl ⟨rfl, trivial⟩
              apply w_conv hC [(16, 160), (2000000, 64)]
              · repeat' first | exact CO.nil | apply CO.gone | apply CO.row rfl rfl | apply CO.box rfl rfl | decide
              · rfl
              · decide
              · rfl
            · refine s_false rfl hb7 ?_
              refine s_reg ?_
              iterate 5 refine v_op hT hC rfl rfl rfl rfl trivial ?_
              refine Vc.nil ?_
              rcases sel_some h with ⟨hb8, h⟩ | ⟨hb8, h⟩
              · refine s_true rfl hb8 ?_
                refine s_reg ?_
                iterate 2 refine v_op hT hC rfl rfl rfl rfl trivial ?_
                obtain ⟨q10, hq, h⟩ := bnd_some h
                refine v_call hC [] rfl rfl rfl rfl Try.call141 (impl_counted_ac hq) rfl (by decide) trivial rfl (.inl rfl) rfl ?_
                iterate 2 refine v_op hT hC rfl rfl rfl rfl trivial ?_
                refine Vc.nil ?_
                refine s_reg ?_
                refine v_op hT hC rfl rfl rfl rfl trivial ?_
                refine Vc.nil ?_
                refine s_in ?_
                refine live [2, 3, 4, 6, 8] [32, 48, 64, 96, 160] (s' := [_, _, _, _, _]) (o' := [_, _, _, _, _]) rfl rfl ?_
                obtain ⟨v16, hl, h⟩ := bnd_some h
                refine s_loop (fun v13 => ([(8, .sv (.int .i64 v13))], [])) (fun v16 => ([(8, .sv (.int .i64 v16))], [])) hl ?_ ?_ ?_
                · apply w_conv hC []
                  · repeat' first | exact CO.nil | apply CO.gone | apply CO.row rfl rfl | apply CO.box rfl rfl | decide
                  · rfl
                  · decide
                  · rfl
                · intro v13 s hs
                  have h := hs
                  unfold impl_QueueIn_l4 at h
                  refine s_in ?_
                  refine live [2, 3, 4, 6, 8] [32, 48, 64, 96, 160] (s' := [_, _, _, _, _]) (o' := [_, _, _, _, _]) rfl rfl ?_
                  obtain ⟨v17, h1, h⟩ := bnd_some h
                  refine aw_to ([(98, .sv (.bool v17))], []) ?_ ?_
                  · have h := h1
                    refine aw_region ?_
                    iterate 7 refine v_op hT hC rfl rfl rfl rfl trivial ?_
                    rcases sel_some h with ⟨hb13, h⟩ | ⟨hb13, h⟩
                    · iterate 3 refine v_on hT hC rfl rfl rfl rfl hb13 rfl rfl rfl trivial ?_
                      obtain ⟨hq, h⟩ := req_some h
                      refine v_on hT hC rfl rfl rfl rfl hb13 rfl rfl rfl hq ?_
                      iterate 3 refine v_on hT hC rfl rfl rfl rfl hb13 rfl rfl rfl trivial ?_
                      refine v_pick hC rfl rfl rfl (b := true) hb13 rfl rfl rfl trivial ?_
                      refine Vc.nil ?_
                      injection h with h
                      subst h
                      refine m_norm ?_
                      apply w_conv hC []
                      · repeat' first | exact CO.nil | apply CO.gone | apply CO.row rfl rfl | apply CO.box rfl rfl | decide
                      · rfl
                      · decide
                      · rfl
                    · refine v_off hC rfl rfl rfl rfl hb13 rfl rfl ?_
                      refine v_off hC rfl rfl rfl rfl hb13 rfl rfl ?_
                      refine v_off hC rfl rfl rfl rfl hb13 rfl rfl ?_
                      refine v_off hC rfl rfl rfl rfl hb13 rfl rfl ?_
                      refine v_off hC rfl rfl rfl rfl hb13 rfl rfl ?_
                      refine v_off hC rfl rfl rfl rfl hb13 rfl rfl ?_
                      refine v_off hC rfl rfl rfl rfl hb13 rfl rfl ?_
                      refine v_pick hC rfl rfl rfl (b := false) hb13 rfl rfl rfl trivial ?_
                      refine Vc.nil ?_
                      injection h with h
                      subst h
                      refine m_norm ?_
                      apply w_conv hC []
                      · repeat' first | exact CO.nil | apply CO.gone | apply CO.row rfl rfl | apply CO.box rfl rfl | decide
                      · rfl
                      · decide
                      · rfl
                  rcases sel_some h with ⟨hb14, h⟩ | ⟨hb14, h⟩
                  · refine s_true rfl hb14 ?_
                    refine aw_skip ?_
                    refine t_norm ?_
                    refine s_block ?_
                    refine aw_region ?_
                    iterate 3 refine v_op hT hC rfl rfl rfl rfl trivial ?_
                    refine Vc.nil ?_
                    refine b_norm ?_
                    injection h with h
                    subst h
                    refine r_go ?_
                    apply w_conv hC []
                    · repeat' first | exact CO.nil | apply CO.gone | apply CO.row rfl rfl | apply CO.box rfl rfl | decide
                    · rfl
                    · decide
                    · rfl
                  · refine s_false rfl hb14 ?_
                    refine aw_exit ?_
                    refine t_exit ?_
                    injection h with h
                    subst h
                    refine r_exit ?_
                    refine o_out ?_
                    apply w_conv hC []
                    · repeat' first | exact CO.nil | apply CO.gone | apply CO.row rfl rfl | apply CO.box rfl rfl | decide
                    · rfl
                    · decide
                    · rfl
                refine t_norm ?_
                refine s_reg ?_
                iterate 3 refine v_op hT hC rfl rfl rfl rfl trivial ?_
                obtain ⟨hq, h⟩ := req_some h
                refine v_op hT hC rfl rfl rfl rfl hq ?_
                iterate 2 refine v_op hT hC rfl rfl rfl rfl trivial ?_
                obtain ⟨q19, hq, h⟩ := bnd_some h
                refine v_call hC [] rfl rfl rfl rfl Try.call128 (impl_SeqPlus_ac hq) rfl (by decide) trivial rfl (.inl rfl) rfl ?_
                iterate 2 refine v_op hT hC rfl rfl rfl rfl trivial ?_
                refine Vc.nil ?_
                refine s_reg ?_
                iterate 4 refine v_op hT hC rfl rfl rfl rfl trivial ?_
                obtain ⟨hq, h⟩ := req_some h
                refine v_op hT hC rfl rfl rfl rfl hq ?_
                iterate 2 refine v_op hT hC rfl rfl rfl rfl trivial ?_
                refine Vc.nil ?_
                refine aw_weak (w_subr hC 96 3 160 2066 rfl rfl rfl rfl cPacket_ok (by omega) rfl rfl (Weak.refl _)) ?_
                refine s_reg ?_
                iterate 2 refine v_op hT hC rfl rfl rfl rfl trivial ?_
                refine Vc.nil ?_
                refine live [3, 4, 6] [48, 64, 96, 2066] (s' := [_, _, _]) (o' := [_, _, _, _]) rfl rfl ?_
                obtain ⟨v20, h1, h⟩ := bnd_some h
                refine aw_to ([(3, .any)], [(96, some (.box [.sv (.bool v20.1), .sv (.int .i64 v20.2.1), .sv (.int .i64 v20.2.2.1), .own 2066, .sv (.int .i64 v20.2.2.2.1), .sv (.int .i64 v20.2.2.2.2.1), .sv (.int .i64 v20.2.2.2.2.2.1), .sv (.int .i64 v20.2.2.2.2.2.2.1), .sv (.int .i64 v20.2.2.2.2.2.2.2.1)])), (2066, some (.row cPacket v20.2.2.2.2.2.2.2.2)), (48, none)]) ?_ ?_
                · have h := h1
                  refine s_reg ?_
                  iterate 4 refine v_op hT hC rfl rfl rfl rfl trivial ?_
                  obtain ⟨q21, hq, h⟩ := bnd_some h
                  refine v_call hC [] rfl rfl rfl rfl Try.call145 (impl_SeqGap_ac hq) rfl (by decide) trivial rfl (.inl rfl) rfl ?_
                  obtain ⟨q22, hq, h⟩ := bnd_some h
                  refine v_call hC [] rfl rfl rfl rfl Try.call102 (impl_within_ac hq) rfl (by decide) trivial rfl (.inl rfl) rfl ?_
                  refine Vc.nil ?_
                  rcases sel_some h with ⟨hb15, h⟩ | ⟨hb15, h⟩
                  · refine s_true rfl hb15 ?_
                    refine aw_region ?_
                    refine v_op hT hC rfl rfl rfl rfl trivial ?_
                    obtain ⟨q23, hq, h⟩ := bnd_some h
                    refine v_call hC [(0, 96), (16, 1969), (2, 2066)] rfl rfl rfl rfl Try.call150 (impl_Queue_hold_d_ac hq) rfl (by decide) ⟨rfl, rfl, trivial⟩ rfl (.inl rfl) rfl ?_
                    refine Vc.nil ?_
                    injection h with h
                    subst h
                    refine m_norm ?_
                    try dsimp only
                    apply w_conv hC [(2066, 1969)]
                    · repeat' first | exact CO.nil | apply CO.gone | apply CO.row rfl rfl | apply CO.box rfl rfl | decide
                    · rfl
                    · decide
                    · rfl
                  · refine s_false rfl hb15 ?_
                    refine aw_skip ?_
                    injection h with h
                    subst h
                    refine m_norm ?_
                    try dsimp only
                    apply w_conv hC []
                    · repeat' first | exact CO.nil | apply CO.gone | apply CO.row rfl rfl | apply CO.box rfl rfl | decide
                    · rfl
                    · decide
                    · rfl
                refine s_reg ?_
                iterate 3 refine v_op hT hC rfl rfl rfl rfl trivial ?_
                refine Vc.nil ?_
                refine aw_ret ?_
                refine b_ret ?_
                refine t_ret ?_
                injection h with h
                subst h
                refine ends (τ := ⟨[(4, .ptr 2000000 0), (5, .sv (.int .i64 6))], [(16, some (.row cPacket v20.2.2.2.2.2.2.2.2)), (2000000, some (.box [.sv (.bool v20.1), .sv (.int .i64 v20.2.1), .sv (.int .i64 v20.2.2.1), .own 16, .sv (.int .i64 v20.2.2.2.1), .sv (.int .i64 v20.2.2.2.2.1), .sv (.int .i64 v20.2.2.2.2.2.1), .sv (.int .i64 v20.2.2.2.2.2.2.1), .sv (.int .i64 v20.2.2.2.2.2.2.2.1)]))]⟩) ?_ rfl ⟨rfl, trivial⟩
                apply w_conv hC [(16, 2066), (2000000, 64)]
                · repeat' first | exact CO.nil | apply CO.gone | apply CO.row rfl rfl | apply CO.box rfl rfl | decide
                · rfl
                · decide
                · rfl
              · refine s_false rfl hb8 ?_
                refine aw_skip ?_
                refine b_norm ?_
                refine t_norm ?_
                refine s_reg ?_
                refine v_op hT hC rfl rfl rfl rfl trivial ?_
                obtain ⟨q24, hq, h⟩ := bnd_some h
                refine v_call hC [(0, 96), (16, 2017), (2, 160)] rfl rfl rfl rfl Try.call150 (impl_Queue_hold_d_ac hq) rfl (by decide) ⟨rfl, rfl, trivial⟩ rfl (.inl rfl) rfl ?_
                refine Vc.nil ?_
                refine s_reg ?_
                iterate 3 refine v_op hT hC rfl rfl rfl rfl trivial ?_
                refine Vc.nil ?_
                refine aw_ret ?_
                injection h with h
                subst h
                refine ends (τ := ⟨[(4, .ptr 2000000 0), (5, .sv (.int .i64 0))], [(16, some (.row cPacket q24.Held)), (2000000, some (.box [.sv (.bool q24.Begun), .sv (.int .i64 q24.Next), .sv (.int .i64 q24.Age), .own 16, .sv (.int .i64 q24.Late), .sv (.int .i64 q24.Far), .sv (.int .i64 q24.Twice), .sv (.int .i64 q24.Over), .sv (.int .i64 q24.Lost)]))]⟩) ?_ rfl ⟨rfl, trivial⟩
                apply w_conv hC [(16, 2017), (2000000, 64)]
                · repeat' first | exact CO.nil | apply CO.gone | apply CO.row rfl rfl | apply CO.box rfl rfl | decide
                · rfl
                · decide
                · rfl
def laws_FnExactQueueIn_res (r : Bool) : AV := .sv (.bool r)
def laws_FnExactQueueIn_obs (r : Bool) : Objs := []
theorem laws_FnExactQueueIn_ac {p0 : Queue} {p1 : Packet} {r : Bool} (h : laws_FnExactQueueIn p0 p1 = some r) : AC Try.prog 10 [.agg [.sv (.bool p0.Begun), .sv (.int .i64 p0.Next), .sv (.int .i64 p0.Age), .sv (cPacket.sv p0.Held), .sv (.int .i64 p0.Late), .sv (.int .i64 p0.Far), .sv (.int .i64 p0.Twice), .sv (.int .i64 p0.Over), .sv (.int .i64 p0.Lost)], .agg [.sv (.int .i64 p1.Seq), .sv (.bool p1.First), .sv (.bool p1.Last), .sv (.str p1.Bytes)]] [] (laws_FnExactQueueIn_res r) (laws_FnExactQueueIn_obs r) := by
  refine ac_of_body hT Try.func10 rfl fun C hC => ?_
  unfold laws_FnExactQueueIn at h
  refine s_reg ?_
  iterate 3 refine v_op hT hC rfl rfl rfl rfl trivial ?_
  refine Vc.nil ?_
  refine s_reg ?_
  refine v_op hT hC rfl rfl rfl rfl trivial ?_
  refine Vc.nil ?_
  refine s_reg ?_
  iterate 2 refine v_op hT hC rfl rfl rfl rfl trivial ?_
  obtain ⟨q1, hq, h⟩ := bnd_some h
  refine v_call hC [] rfl rfl rfl rfl Try.call53 (laws_szQueue_ac hq) rfl (by decide) trivial rfl (.inl rfl) rfl ?_
  refine v_op hT hC rfl rfl rfl rfl trivial ?_
  refine Vc.nil ?_
  refine s_in ?_
  refine s_reg ?_
  iterate 2 refine v_op hT hC rfl rfl rfl rfl trivial ?_
  refine Vc.nil ?_
  rcases sel_some h with ⟨hb1, h⟩ | ⟨hb1, h⟩
  · refine s_true rfl hb1 ?_
    refine s_reg ?_
    refine v_op hT hC rfl rfl rfl rfl trivial ?_
    refine Vc.nil ?_
    refine aw_ret ?_
    refine t_ret ?_
    injection h with h
    subst h
    exact ends (Weak.refl _) rfl trivial
  · refine s_false rfl hb1 ?_
    refine aw_skip ?_
    refine t_norm ?_
    refine s_reg ?_
    iterate 2 refine v_op hT hC rfl rfl rfl rfl trivial ?_
    obtain ⟨q2, hq, h⟩ := bnd_some h
    refine v_call hC [] rfl rfl rfl rfl Try.call63 (laws_szPacket_ac hq) rfl (by decide) trivial rfl (.inl rfl) rfl ?_
    refine v_op hT hC rfl rfl rfl rfl trivial ?_
    refine Vc.nil ?_
    refine s_in ?_
    refine s_reg ?_
    iterate 2 refine v_op hT hC rfl rfl rfl rfl trivial ?_
    refine Vc.nil ?_
    rcases sel_some h with ⟨hb2, h⟩ | ⟨hb2, h⟩
    · refine s_true rfl hb2 ?_
      refine s_reg ?_
      refine v_op hT hC rfl rfl rfl rfl trivial ?_
      refine Vc.nil ?_
      refine aw_ret ?_
      refine t_ret ?_
      injection h with h
      subst h
      exact ends (Weak.refl _) rfl trivial
    · refine s_false rfl hb2 ?_
      refine aw_skip ?_
      refine t_norm ?_
      refine s_draw hm ?_
      refine v_op hT hC rfl rfl rfl rfl trivial ?_
      obtain ⟨q3, hq, h⟩ := bnd_some h
      refine v_call hC [(16, 448)] rfl rfl rfl rfl Try.call55 (laws_toQueue_ac hq) rfl (by decide) trivial rfl (.inl rfl) rfl ?_
      refine v_op hT hC rfl rfl rfl rfl trivial ?_
      obtain ⟨q4, hq, h⟩ := bnd_some h
      refine v_call hC [] rfl rfl rfl rfl Try.call65 (laws_toPacket_ac hq) rfl (by decide) trivial rfl (.inl rfl) rfl ?_
      obtain ⟨q5, hq, h⟩ := bnd_some h
      refine v_call hC [(16, 496)] rfl rfl rfl rfl Try.call64 (spec_QueueIn_ac hq) rfl (by decide) trivial rfl (.inr ⟨rfl, ⟨fun _ => rfl, trivial⟩⟩) rfl ?_
      iterate 6 refine v_op hT hC rfl rfl rfl rfl trivial ?_
      refine Vc.nil ⟨by kernel_rfl, ?_⟩
      refine s_reg ?_
      refine v_op hT hC rfl rfl rfl rfl trivial ?_
      obtain ⟨q6, hq, h⟩ := bnd_some h
      refine v_call hC [(16, 560)] rfl rfl rfl rfl Try.call55 (laws_toQueue_ac hq) rfl (by decide) trivial rfl (.inl rfl) rfl ?_
      iterate 2 refine v_op hT hC rfl rfl rfl rfl trivial ?_
      refine Vc.nil ?_
      refine s_draw hm ?_
      iterate 2 refine v_op hT hC rfl rfl rfl rfl trivial ?_
      obtain ⟨q7, hq, h⟩ := bnd_some h
      refine v_call hC [] rfl rfl rfl rfl Try.call65 (laws_toPacket_ac hq) rfl (by decide) trivial rfl (.inl rfl) rfl ?_
      obtain ⟨q8, hq, h⟩ := bnd_some h
      refine v_call hC [(16, 640)] rfl rfl rfl rfl Try.call66 (impl_QueueIn_ac hq) rfl (by decide) trivial rfl (.inr ⟨rfl, ⟨fun _ => rfl, trivial⟩⟩) rfl ?_
      iterate 6 refine v_op hT hC rfl rfl rfl rfl trivial ?_
      refine Vc.nil ⟨by kernel_rfl, ?_⟩
      refine s_in ?_
      refine live [2, 3, 6, 7, 8, 9, 10] [32, 48, 96, 128, 144, 496, 560, 640] (s' := [_, _, _, _, _, _, _]) (o' := [_, _, _, _, _, _, _, _]) rfl rfl ?_
      obtain ⟨v9, h1, h⟩ := bnd_some h
      refine aw_to ([(51, .sv (.bool v9))], []) ?_ ?_
      · have h := h1
        refine aw_region ?_
        iterate 2 refine v_op hT hC rfl rfl rfl rfl trivial ?_
        obtain ⟨q10, hq, h⟩ := bnd_some h
        refine v_call hC [] rfl rfl rfl rfl Try.call57 (laws_eqQueue_ac hq) rfl (by decide) trivial rfl (.inr ⟨rfl, trivial⟩) rfl ?_
        iterate 2 refine v_op hT hC rfl rfl rfl rfl trivial ?_
        rcases sel_some h with ⟨hb3, h⟩ | ⟨hb3, h⟩
        · iterate 3 refine v_on hT hC rfl rfl rfl rfl (congrArg Bool.not hb3) rfl rfl rfl trivial ?_
          refine v_pick hC rfl rfl rfl (b := false) (congrArg Bool.not hb3) rfl rfl rfl trivial ?_
          refine Vc.nil ?_
          injection h with h
          subst h
          refine m_norm ?_
          apply w_conv hC []
          · repeat' first | exact CO.nil | apply CO.gone | apply CO.row rfl rfl | apply CO.box rfl rfl | decide
          · rfl
          · decide
          · rfl
        · refine v_off hC rfl rfl rfl rfl (congrArg Bool.not hb3) rfl rfl ?_
          refine v_off hC rfl rfl rfl rfl (congrArg Bool.not hb3) rfl rfl ?_
          refine v_off hC rfl rfl rfl rfl (congrArg Bool.not hb3) rfl rfl ?_
          refine v_pick hC rfl rfl rfl (b := true) (congrArg Bool.not hb3) rfl rfl rfl trivial ?_
          refine Vc.nil ?_
          injection h with h
          subst h
          refine m_norm ?_
          apply w_conv hC []
          · repeat' first | exact CO.nil | apply CO.gone | apply CO.row rfl rfl | apply CO.box rfl rfl | decide
          · rfl
          · decide
          · rfl
      rcases sel_some h with ⟨hb4, h⟩ | ⟨hb4, h⟩
      · refine s_true rfl hb4 ?_
        refine s_reg ?_
        refine v_op hT hC rfl rfl rfl rfl trivial ?_
        refine Vc.nil ?_
        refine aw_ret ?_
        refine t_ret ?_
        injection h with h
        subst h
        exact ends (Weak.refl _) rfl trivial
      · refine s_false rfl hb4 ?_
        refine aw_skip ?_
        refine t_norm ?_
        refine s_in ?_
        refine s_draw hm ?_
        iterate 2 refine v_op hT hC rfl rfl rfl rfl trivial ?_
        obtain ⟨q11, hq, h⟩ := bnd_some h
        refine v_call hC [(16, 864)] rfl rfl rfl rfl Try.call55 (laws_toQueue_ac hq) rfl (by decide) trivial rfl (.inl rfl) rfl ?_
        obtain ⟨q12, hq, h⟩ := bnd_some h
        refine v_call hC [] rfl rfl rfl rfl Try.call57 (laws_eqQueue_ac hq) rfl (by decide) trivial rfl (.inr ⟨rfl, trivial⟩) rfl ?_
        refine v_op hT hC rfl rfl rfl rfl trivial ?_
        refine Vc.nil ⟨by kernel_rfl, ?_⟩
        rcases sel_some h with ⟨hb5, h⟩ | ⟨hb5, h⟩
        · refine s_true rfl hb5 ?_
          refine s_reg ?_
          refine v_op hT hC rfl rfl rfl rfl trivial ?_
          refine Vc.nil ?_
          refine aw_ret ?_
          refine t_ret ?_
          injection h with h
          subst h
          exact ends (Weak.refl _) rfl trivial
        · refine s_false rfl hb5 ?_
          refine aw_skip ?_
          refine t_norm ?_
          refine s_reg ?_
          refine v_op hT hC rfl rfl rfl rfl trivial ?_
          refine Vc.nil ?_
          refine s_reg ?_
          iterate 2 refine v_op hT hC rfl rfl rfl rfl trivial ?_
          obtain ⟨q13, hq, h⟩ := bnd_some h
          refine v_call hC [(2, 560)] rfl rfl rfl rfl Try.call58 (laws_markQueue_ac hq) rfl (by decide) ⟨rfl, trivial⟩ rfl (.inl rfl) rfl ?_
          refine v_op hT hC rfl rfl rfl rfl trivial ?_
          refine Vc.nil ?_
          refine s_in ?_
          refine live [2, 3, 6, 7, 9, 10, 11] [32, 48, 96, 144, 496, 640] (s' := [_, _, _, _, _, _, _]) (o' := [_, _, _, _, _, _]) rfl rfl ?_
          obtain ⟨v14, h1, h⟩ := bnd_some h
          refine aw_to ([(72, .sv (.bool v14)), (10, .any), (11, .any)], []) ?_ ?_
          · have h := h1
            refine aw_region ?_
            iterate 3 refine v_op hT hC rfl rfl rfl rfl trivial ?_
            rcases sel_some h with ⟨hb6, h⟩ | ⟨hb6, h⟩
            · refine v_off hC rfl rfl rfl rfl hb6 rfl rfl ?_
              refine v_off hC rfl rfl rfl rfl hb6 rfl rfl ?_
              refine v_off hC rfl rfl rfl rfl hb6 rfl rfl ?_
              refine v_off hC rfl rfl rfl rfl hb6 rfl rfl ?_
              refine v_pick hC rfl rfl rfl (b := true) hb6 rfl rfl rfl trivial ?_
              refine v_op hT hC rfl rfl rfl rfl trivial ?_
              refine v_off hC rfl rfl rfl rfl rfl rfl rfl ?_
              refine v_off hC rfl rfl rfl rfl rfl rfl rfl ?_
              refine v_off hC rfl rfl rfl rfl rfl rfl rfl ?_
              refine v_op hT hC rfl rfl rfl rfl trivial ?_
              refine Vc.nil ?_
              injection h with h
              subst h
              refine m_norm ?_
              apply w_conv hC []
              · repeat' first | exact CO.nil | apply CO.gone | apply CO.row rfl rfl | apply CO.box rfl rfl | decide
              · rfl
              · decide
              · rfl
            · iterate 2 refine v_on hT hC rfl rfl rfl rfl hb6 rfl rfl rfl trivial ?_
              obtain ⟨q15, hq, h⟩ := bnd_some h
              refine v_call_on hC [] rfl rfl rfl rfl hb6 rfl rfl rfl Try.call57 (laws_eqQueue_ac hq) rfl (by decide) trivial rfl (.inr ⟨rfl, trivial⟩) rfl ?_
              refine v_on hT hC rfl rfl rfl rfl hb6 rfl rfl rfl trivial ?_
              refine v_pick hC rfl rfl rfl (b := false) hb6 rfl rfl rfl trivial ?_
              refine v_op hT hC rfl rfl rfl rfl trivial ?_
              rcases sel_some h with ⟨hb7, h⟩ | ⟨hb7, h⟩
              · iterate 3 refine v_on hT hC rfl rfl rfl rfl (congrArg Bool.not hb7) rfl rfl rfl trivial ?_
                refine v_pick hC rfl rfl rfl (b := false) (congrArg Bool.not hb7) rfl rfl rfl trivial ?_
                refine Vc.nil ?_
                injection h with h
                subst h
                refine m_norm ?_
                apply w_conv hC []
                · repeat' first | exact CO.nil | apply CO.gone | apply CO.row rfl rfl | apply CO.box rfl rfl | decide
                · rfl
                · decide
                · rfl
              · refine v_off hC rfl rfl rfl rfl (congrArg Bool.not hb7) rfl rfl ?_
                refine v_off hC rfl rfl rfl rfl (congrArg Bool.not hb7) rfl rfl ?_
                refine v_off hC rfl rfl rfl rfl (congrArg Bool.not hb7) rfl rfl ?_
                refine v_pick hC rfl rfl rfl (b := true) (congrArg Bool.not hb7) rfl rfl rfl trivial ?_
                refine Vc.nil ?_
                injection h with h
                subst h
                refine m_norm ?_
                apply w_conv hC []
                · repeat' first | exact CO.nil | apply CO.gone | apply CO.row rfl rfl | apply CO.box rfl rfl | decide
                · rfl
                · decide
                · rfl
          rcases sel_some h with ⟨hb8, h⟩ | ⟨hb8, h⟩
          · refine s_true rfl hb8 ?_
            refine s_reg ?_
            refine v_op hT hC rfl rfl rfl rfl trivial ?_
            refine Vc.nil ?_
            refine aw_ret ?_
            refine t_ret ?_
            injection h with h
            subst h
            exact ends (Weak.refl _) rfl trivial
          · refine s_false rfl hb8 ?_
            refine aw_skip ?_
            refine t_norm ?_
            refine s_reg ?_
            refine v_op hT hC rfl rfl rfl rfl trivial ?_
            refine Vc.nil ?_
            refine s_reg ?_
            iterate 2 refine v_op hT hC rfl rfl rfl rfl trivial ?_
            obtain ⟨q16, hq, h⟩ := bnd_some h
            refine v_call hC [(2, 640)] rfl rfl rfl rfl Try.call58 (laws_markQueue_ac hq) rfl (by decide) ⟨rfl, trivial⟩ rfl (.inl rfl) rfl ?_
            refine v_op hT hC rfl rfl rfl rfl trivial ?_
            refine Vc.nil ?_
            refine s_reg ?_
            refine v_op hT hC rfl rfl rfl rfl trivial ?_
            refine Vc.nil ?_
            refine s_reg ?_
            iterate 2 refine v_op hT hC rfl rfl rfl rfl trivial ?_
            obtain ⟨q17, hq, h⟩ := bnd_some h
            refine v_call hC [] rfl rfl rfl rfl Try.call59 (laws_heldQueue_ac hq) rfl (by decide) trivial rfl (.inr ⟨rfl, trivial⟩) rfl ?_
            refine v_op hT hC rfl rfl rfl rfl trivial ?_
            refine Vc.nil ?_
            refine s_in ?_
            refine s_reg ?_
            iterate 2 refine v_op hT hC rfl rfl rfl rfl trivial ?_
            refine Vc.nil ?_
            rcases sel_some h with ⟨hb9, h⟩ | ⟨hb9, h⟩
            · refine s_true rfl hb9 ?_
              refine s_reg ?_
              refine v_op hT hC rfl rfl rfl rfl trivial ?_
              refine Vc.nil ?_
              refine aw_ret ?_
              refine t_ret ?_
              injection h with h
              subst h
              exact ends (Weak.refl _) rfl trivial
            · refine s_false rfl hb9 ?_
              refine aw_skip ?_
              refine t_norm ?_
              refine s_in ?_
              refine s_reg ?_
              iterate 3 refine v_op hT hC rfl rfl rfl rfl trivial ?_
              refine Vc.nil ?_
              rcases sel_some h with ⟨hb10, h⟩ | ⟨hb10, h⟩
              · refine s_true rfl hb10 ?_
                refine s_reg ?_
                refine v_op hT hC rfl rfl rfl rfl trivial ?_
                refine Vc.nil ?_
                refine aw_ret ?_
                refine t_ret ?_
                injection h with h
                subst h
                exact ends (Weak.refl _) rfl trivial
              · refine s_false rfl hb10 ?_
                refine aw_skip ?_
                refine t_norm ?_
                refine s_draw hm ?_
                refine v_op hT hC rfl rfl rfl rfl trivial ?_
                obtain ⟨q18, hq, h⟩ := bnd_some h
                refine v_call hC [(16, 1376)] rfl rfl rfl rfl Try.call55 (laws_toQueue_ac hq) rfl (by decide) trivial rfl (.inl rfl) rfl ?_
                refine v_op hT hC rfl rfl rfl rfl trivial ?_
                obtain ⟨q19, hq, h⟩ := bnd_some h
                refine v_call hC [] rfl rfl rfl rfl Try.call65 (laws_toPacket_ac hq) rfl (by decide) trivial rfl (.inl rfl) rfl ?_
                obtain ⟨q20, hq, h⟩ := bnd_some h
                refine v_call hC [(16, 1424)] rfl rfl rfl rfl Try.call66 (impl_QueueIn_ac hq) rfl (by decide) trivial rfl (.inr ⟨rfl, ⟨fun _ => rfl, trivial⟩⟩) rfl ?_
                iterate 6 refine v_op hT hC rfl rfl rfl rfl trivial ?_
                refine Vc.nil ⟨by kernel_rfl, ?_⟩
                refine s_in ?_
                refine live [6, 7, 9, 12, 14, 15] [96, 144, 224, 496, 640, 1424] (s' := [_, _, _, _, _, _]) (o' := [_, _, _, _, _, _]) rfl rfl ?_
                obtain ⟨v21, h1, h⟩ := bnd_some h
                refine aw_to ([(100, .sv (.bool v21)), (6, .any), (7, .any), (14, .any), (15, .any)], [(96, none), (224, none), (496, none), (1424, none)]) ?_ ?_
                · have h := h1
                  refine aw_region ?_
                  iterate 2 refine v_op hT hC rfl rfl rfl rfl trivial ?_
                  obtain ⟨q22, hq, h⟩ := bnd_some h
                  refine v_call hC [] rfl rfl rfl rfl Try.call57 (laws_eqQueue_ac hq) rfl (by decide) trivial rfl (.inr ⟨rfl, trivial⟩) rfl ?_
                  iterate 2 refine v_op hT hC rfl rfl rfl rfl trivial ?_
                  rcases sel_some h with ⟨hb11, h⟩ | ⟨hb11, h⟩
                  · iterate 3 refine v_on hT hC rfl rfl rfl rfl (congrArg Bool.not hb11) rfl rfl rfl trivial ?_
                    refine v_pick hC rfl rfl rfl (b := false) (congrArg Bool.not hb11) rfl rfl rfl trivial ?_
                    refine Vc.nil ?_
                    injection h with h
                    subst h
                    refine m_norm ?_
                    apply w_conv hC []
                    · repeat' first | exact CO.nil | apply CO.gone | apply CO.row rfl rfl | apply CO.box rfl rfl | decide
                    · rfl
                    · decide
                    · rfl
                  · refine v_off hC rfl rfl rfl rfl (congrArg Bool.not hb11) rfl rfl ?_
                    refine v_off hC rfl rfl rfl rfl (congrArg Bool.not hb11) rfl rfl ?_
                    refine v_off hC rfl rfl rfl rfl (congrArg Bool.not hb11) rfl rfl ?_
                    refine v_pick hC rfl rfl rfl (b := true) (congrArg Bool.not hb11) rfl rfl rfl trivial ?_
                    refine Vc.nil ?_
                    injection h with h
                    subst h
                    refine m_norm ?_
                    apply w_conv hC []
                    · repeat' first | exact CO.nil | apply CO.gone | apply CO.row rfl rfl | apply CO.box rfl rfl | decide
                    · rfl
                    · decide
                    · rfl
                rcases sel_some h with ⟨hb12, h⟩ | ⟨hb12, h⟩
                · refine s_true rfl hb12 ?_
                  refine s_reg ?_
                  refine v_op hT hC rfl rfl rfl rfl trivial ?_
                  refine Vc.nil ?_
                  refine aw_ret ?_
                  refine t_ret ?_
                  injection h with h
                  subst h
                  exact ends (Weak.refl _) rfl trivial
                · refine s_false rfl hb12 ?_
                  refine aw_skip ?_
                  refine t_norm ?_
                  refine s_reg ?_
                  refine v_op hT hC rfl rfl rfl rfl trivial ?_
                  refine Vc.nil ?_
                  refine s_reg ?_
                  iterate 2 refine v_op hT hC rfl rfl rfl rfl trivial ?_
                  obtain ⟨q23, hq, h⟩ := bnd_some h
                  refine v_call hC [] rfl rfl rfl rfl Try.call59 (laws_heldQueue_ac hq) rfl (by decide) trivial rfl (.inr ⟨rfl, trivial⟩) rfl ?_
                  refine v_op hT hC rfl rfl rfl rfl trivial ?_
                  refine Vc.nil ?_
                  refine s_in ?_
                  refine s_reg ?_
                  iterate 2 refine v_op hT hC rfl rfl rfl rfl trivial ?_
                  refine Vc.nil ?_
                  rcases sel_some h with ⟨hb13, h⟩ | ⟨hb13, h⟩
                  · refine s_true rfl hb13 ?_
                    refine s_reg ?_
                    refine v_op hT hC rfl rfl rfl rfl trivial ?_
                    refine Vc.nil ?_
                    refine aw_ret ?_
                    refine t_ret ?_
                    injection h with h
                    subst h
                    exact ends (Weak.refl _) rfl trivial
                  · refine s_false rfl hb13 ?_
                    refine aw_skip ?_
                    refine t_norm ?_
                    refine s_in ?_
                    refine s_reg ?_
                    iterate 3 refine v_op hT hC rfl rfl rfl rfl trivial ?_
                    refine Vc.nil ?_
                    rcases sel_some h with ⟨hb14, h⟩ | ⟨hb14, h⟩
                    · refine s_true rfl hb14 ?_
                      refine s_reg ?_
                      refine v_op hT hC rfl rfl rfl rfl trivial ?_
                      refine Vc.nil ?_
                      refine aw_ret ?_
                      refine t_ret ?_
                      injection h with h
                      subst h
                      exact ends (Weak.refl _) rfl trivial
                    · refine s_false rfl hb14 ?_
                      refine aw_skip ?_
                      refine t_norm ?_
                      refine s_reg ?_
                      refine v_op hT hC rfl rfl rfl rfl trivial ?_
                      refine Vc.nil ?_
                      refine aw_ret ?_
                      injection h with h
                      subst h
                      exact ends (Weak.refl _) rfl trivial
end
end Go.Proofs.Ytplmeeookgefnaa.A
