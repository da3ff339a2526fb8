/- Contracts of the functions that the law FnExactQueueTick reaches, part 1: each comes to what its pure function tells. Written by a program of this session. Conditions: as each statement tells. -/
import Derived.Test.YtplmeeookgefnaaFFnExactQueueTickx0
namespace Go.Proofs.Ytplmeeookgefnaa.A
open Go Go.Proofs Go.Proofs.YtplmeeookgefnaaAL Go.RowKit
set_option linter.unusedVariables false
set_option linter.unusedSimpArgs false
set_option maxRecDepth 100000
set_option maxHeartbeats 2000000
noncomputable section
def laws_FnExactQueueTick_res (r : Bool) : AV := .sv (.bool r)
def laws_FnExactQueueTick_obs (r : Bool) : Objs := []
theorem laws_FnExactQueueTick_ac {p0 : Queue} {p1 : Int} {r : Bool} (h : laws_FnExactQueueTick p0 p1 = some r) : AC Try.prog 8 [.agg [.sv (.bool p0.Begun), .sv (.int .i64 p0.Next), .sv (.int .i64 p0.Age), .sv (cPacket.sv p0.Held), .sv (.int .i64 p0.Late), .sv (.int .i64 p0.Far), .sv (.int .i64 p0.Twice), .sv (.int .i64 p0.Over), .sv (.int .i64 p0.Lost)], .sv (.int .i64 p1)] [] (laws_FnExactQueueTick_res r) (laws_FnExactQueueTick_obs r) := by
  refine ac_of_body hT Try.func8 rfl fun C hC => ?_
  unfold laws_FnExactQueueTick at h
  refine s_reg ?_
  iterate 2 refine v_op hT hC rfl rfl rfl rfl trivial ?_
  refine Vc.nil ?_
  refine s_reg ?_
  refine v_op hT hC rfl rfl rfl rfl trivial ?_
  refine Vc.nil ?_
  refine s_reg ?_
  iterate 2 refine v_op hT hC rfl rfl rfl rfl trivial ?_
  obtain ⟨q1, hq, h⟩ := bnd_some h
  refine v_call hC [] rfl rfl rfl rfl Try.call53 (laws_szQueue_ac hq) rfl (by decide) trivial rfl (.inl rfl) rfl ?_
  refine v_op hT hC rfl rfl rfl rfl trivial ?_
  refine Vc.nil ?_
  refine s_in ?_
  refine s_reg ?_
  iterate 2 refine v_op hT hC rfl rfl rfl rfl trivial ?_
  refine Vc.nil ?_
  rcases sel_some h with ⟨hb1, h⟩ | ⟨hb1, h⟩
  · refine s_true rfl hb1 ?_
    refine s_reg ?_
    refine v_op hT hC rfl rfl rfl rfl trivial ?_
    refine Vc.nil ?_
    refine aw_ret ?_
    refine t_ret ?_
    injection h with h
    subst h
    exact ends (Weak.refl _) rfl trivial
  · refine s_false rfl hb1 ?_
    refine aw_skip ?_
    refine t_norm ?_
    refine s_reg ?_
    refine v_op hT hC rfl rfl rfl rfl trivial ?_
    obtain ⟨q2, hq, h⟩ := bnd_some h
    refine v_call hC [(16, 416)] rfl rfl rfl rfl Try.call55 (laws_toQueue_ac hq) rfl (by decide) trivial rfl (.inl rfl) rfl ?_
    refine v_op hT hC rfl rfl rfl rfl trivial ?_
    obtain ⟨q3, hq, h⟩ := bnd_some h
    refine v_call hC [(16, 448), (17, 449)] rfl rfl rfl rfl Try.call54 (spec_QueueTick_ac hq) rfl (by decide) trivial rfl (.inr ⟨rfl, ⟨fun _ => rfl, fun _ => rfl, trivial⟩⟩) rfl ?_
    iterate 8 refine v_op hT hC rfl rfl rfl rfl trivial ?_
    refine Vc.nil ?_
    refine s_reg ?_
    refine v_op hT hC rfl rfl rfl rfl trivial ?_
    obtain ⟨q4, hq, h⟩ := bnd_some h
    refine v_call hC [(16, 528)] rfl rfl rfl rfl Try.call55 (laws_toQueue_ac hq) rfl (by decide) trivial rfl (.inl rfl) rfl ?_
    iterate 2 refine v_op hT hC rfl rfl rfl rfl trivial ?_
    refine Vc.nil ?_
    refine s_reg ?_
    iterate 2 refine v_op hT hC rfl rfl rfl rfl trivial ?_
    obtain ⟨q5, hq, h⟩ := bnd_some h
    refine v_call hC [(16, 592), (17, 593)] rfl rfl rfl rfl Try.call56 (impl_QueueTick_ac hq) rfl (by decide) trivial rfl (.inr ⟨rfl, ⟨fun _ => rfl, fun _ => rfl, trivial⟩⟩) rfl ?_
    iterate 8 refine v_op hT hC rfl rfl rfl rfl trivial ?_
    refine Vc.nil ?_
    refine s_in ?_
    refine live [1, 2, 6, 7, 8, 9, 10, 11, 12] [32, 96, 144, 160, 448, 449, 528, 592, 593] (s' := [_, _, _, _, _, _, _, _, _]) (o' := [_, _, _, _, _, _, _, _, _]) rfl rfl ?_
    obtain ⟨v6, h1, h⟩ := bnd_some h
    refine aw_to ([(55, .sv (.bool v6))], []) ?_ ?_
    · have h := h1
      refine aw_region ?_
      iterate 2 refine v_op hT hC rfl rfl rfl rfl trivial ?_
      obtain ⟨q7, hq, h⟩ := bnd_some h
      refine v_call hC [] rfl rfl rfl rfl Try.call57 (laws_eqQueue_ac hq) rfl (by decide) trivial rfl (.inr ⟨rfl, trivial⟩) rfl ?_
      iterate 2 refine v_op hT hC rfl rfl rfl rfl trivial ?_
      rcases sel_some h with ⟨hb2, h⟩ | ⟨hb2, h⟩
      · iterate 2 refine v_on hT hC rfl rfl rfl rfl (congrArg Bool.not hb2) rfl rfl rfl trivial ?_
        obtain ⟨q8, hq, h⟩ := bnd_some h
        refine v_call_on hC [] rfl rfl rfl rfl (congrArg Bool.not hb2) rfl rfl rfl Try.call43 (laws_eqPacketS_ac hq) rfl (by decide) trivial rfl (.inr ⟨rfl, trivial⟩) rfl ?_
        refine v_on hT hC rfl rfl rfl rfl (congrArg Bool.not hb2) rfl rfl rfl trivial ?_
        refine v_pick hC rfl rfl rfl (b := false) (congrArg Bool.not hb2) rfl rfl rfl trivial ?_
        refine v_op hT hC rfl rfl rfl rfl trivial ?_
        rcases sel_some h with ⟨hb3, h⟩ | ⟨hb3, h⟩
        · iterate 3 refine v_on hT hC rfl rfl rfl rfl (congrArg Bool.not hb3) rfl rfl rfl trivial ?_
          refine v_pick hC rfl rfl rfl (b := false) (congrArg Bool.not hb3) rfl rfl rfl trivial ?_
          refine Vc.nil ?_
          injection h with h
          subst h
          refine m_norm ?_
          apply w_conv hC []
          · repeat' first | exact CO.nil | apply CO.gone | apply CO.row rfl rfl | apply CO.box rfl rfl | decide
          · rfl
          · decide
          · rfl
        · refine v_off hC rfl rfl rfl rfl (congrArg Bool.not hb3) rfl rfl ?_
          refine v_off hC rfl rfl rfl rfl (congrArg Bool.not hb3) rfl rfl ?_
          refine v_off hC rfl rfl rfl rfl (congrArg Bool.not hb3) rfl rfl ?_
          refine v_pick hC rfl rfl rfl (b := true) (congrArg Bool.not hb3) rfl rfl rfl trivial ?_
          refine Vc.nil ?_
          injection h with h
          subst h
          refine m_norm ?_
          apply w_conv hC []
          · repeat' first | exact CO.nil | apply CO.gone | apply CO.row rfl rfl | apply CO.box rfl rfl | decide
          · rfl
          · decide
          · rfl
      · refine v_off hC rfl rfl rfl rfl (congrArg Bool.not hb2) rfl rfl ?_
        refine v_off hC rfl rfl rfl rfl (congrArg Bool.not hb2) rfl rfl ?_
        refine v_off hC rfl rfl rfl rfl (congrArg Bool.not hb2) rfl rfl ?_
        refine v_off hC rfl rfl rfl rfl (congrArg Bool.not hb2) rfl rfl ?_
        refine v_pick hC rfl rfl rfl (b := true) (congrArg Bool.not hb2) rfl rfl rfl trivial ?_
        refine v_op hT hC rfl rfl rfl rfl trivial ?_
        refine v_off hC rfl rfl rfl rfl rfl rfl rfl ?_
        refine v_off hC rfl rfl rfl rfl rfl rfl rfl ?_
        refine v_off hC rfl rfl rfl rfl rfl rfl rfl ?_
        refine v_op hT hC rfl rfl rfl rfl trivial ?_
        refine Vc.nil ?_
        injection h with h
        subst h
        refine m_norm ?_
        apply w_conv hC []
        · repeat' first | exact CO.nil | apply CO.gone | apply CO.row rfl rfl | apply CO.box rfl rfl | decide
        · rfl
        · decide
        · rfl
    rcases sel_some h with ⟨hb4, h⟩ | ⟨hb4, h⟩
    · refine s_true rfl hb4 ?_
      refine s_reg ?_
      refine v_op hT hC rfl rfl rfl rfl trivial ?_
      refine Vc.nil ?_
      refine aw_ret ?_
      refine t_ret ?_
      injection h with h
      subst h
      exact ends (Weak.refl _) rfl trivial
    · refine s_false rfl hb4 ?_
      refine aw_skip ?_
      refine t_norm ?_
      refine s_in ?_
      refine s_draw hm ?_
      iterate 2 refine v_op hT hC rfl rfl rfl rfl trivial ?_
      obtain ⟨q9, hq, h⟩ := bnd_some h
      refine v_call hC [(16, 928)] rfl rfl rfl rfl Try.call55 (laws_toQueue_ac hq) rfl (by decide) trivial rfl (.inl rfl) rfl ?_
      obtain ⟨q10, hq, h⟩ := bnd_some h
      refine v_call hC [] rfl rfl rfl rfl Try.call57 (laws_eqQueue_ac hq) rfl (by decide) trivial rfl (.inr ⟨rfl, trivial⟩) rfl ?_
      refine v_op hT hC rfl rfl rfl rfl trivial ?_
      refine Vc.nil ⟨by kernel_rfl, ?_⟩
      rcases sel_some h with ⟨hb5, h⟩ | ⟨hb5, h⟩
      · refine s_true rfl hb5 ?_
        refine s_reg ?_
        refine v_op hT hC rfl rfl rfl rfl trivial ?_
        refine Vc.nil ?_
        refine aw_ret ?_
        refine t_ret ?_
        injection h with h
        subst h
        exact ends (Weak.refl _) rfl trivial
      · refine s_false rfl hb5 ?_
        refine aw_skip ?_
        refine t_norm ?_
        refine s_reg ?_
        refine v_op hT hC rfl rfl rfl rfl trivial ?_
        refine Vc.nil ?_
        refine s_reg ?_
        iterate 2 refine v_op hT hC rfl rfl rfl rfl trivial ?_
        obtain ⟨q11, hq, h⟩ := bnd_some h
        refine v_call hC [(2, 528)] rfl rfl rfl rfl Try.call58 (laws_markQueue_ac hq) rfl (by decide) ⟨rfl, trivial⟩ rfl (.inl rfl) rfl ?_
        refine v_op hT hC rfl rfl rfl rfl trivial ?_
        refine Vc.nil ?_
        refine s_in ?_
        refine live [1, 2, 6, 7, 8, 10, 11, 12, 13] [32, 96, 160, 448, 449, 592, 593] (s' := [_, _, _, _, _, _, _, _, _]) (o' := [_, _, _, _, _, _, _]) rfl rfl ?_
        obtain ⟨v12, h1, h⟩ := bnd_some h
        refine aw_to ([(82, .sv (.bool v12)), (12, .any), (13, .any)], []) ?_ ?_
        · have h := h1
          refine aw_region ?_
          iterate 3 refine v_op hT hC rfl rfl rfl rfl trivial ?_
          rcases sel_some h with ⟨hb6, h⟩ | ⟨hb6, h⟩
          · refine v_off hC rfl rfl rfl rfl hb6 rfl rfl ?_
            refine v_off hC rfl rfl rfl rfl hb6 rfl rfl ?_
            refine v_off hC rfl rfl rfl rfl hb6 rfl rfl ?_
            refine v_off hC rfl rfl rfl rfl hb6 rfl rfl ?_
            refine v_pick hC rfl rfl rfl (b := true) hb6 rfl rfl rfl trivial ?_
            refine v_op hT hC rfl rfl rfl rfl trivial ?_
            refine v_off hC rfl rfl rfl rfl rfl rfl rfl ?_
            refine v_off hC rfl rfl rfl rfl rfl rfl rfl ?_
            refine v_off hC rfl rfl rfl rfl rfl rfl rfl ?_
            refine v_off hC rfl rfl rfl rfl rfl rfl rfl ?_
            iterate 2 refine v_op hT hC rfl rfl rfl rfl trivial ?_
            refine v_off hC rfl rfl rfl rfl rfl rfl rfl ?_
            refine v_off hC rfl rfl rfl rfl rfl rfl rfl ?_
            refine v_off hC rfl rfl rfl rfl rfl rfl rfl ?_
            refine v_op hT hC rfl rfl rfl rfl trivial ?_
            refine Vc.nil ?_
            injection h with h
            subst h
            refine m_norm ?_
            apply w_conv hC []
            · repeat' first | exact CO.nil | apply CO.gone | apply CO.row rfl rfl | apply CO.box rfl rfl | decide
            · rfl
            · decide
            · rfl
          · iterate 2 refine v_on hT hC rfl rfl rfl rfl hb6 rfl rfl rfl trivial ?_
            obtain ⟨q13, hq, h⟩ := bnd_some h
            refine v_call_on hC [] rfl rfl rfl rfl hb6 rfl rfl rfl Try.call57 (laws_eqQueue_ac hq) rfl (by decide) trivial rfl (.inr ⟨rfl, trivial⟩) rfl ?_
            refine v_on hT hC rfl rfl rfl rfl hb6 rfl rfl rfl trivial ?_
            refine v_pick hC rfl rfl rfl (b := false) hb6 rfl rfl rfl trivial ?_
            refine v_op hT hC rfl rfl rfl rfl trivial ?_
            rcases sel_some h with ⟨hb7, h⟩ | ⟨hb7, h⟩
            · iterate 2 refine v_on hT hC rfl rfl rfl rfl (congrArg Bool.not hb7) rfl rfl rfl trivial ?_
              obtain ⟨q14, hq, h⟩ := bnd_some h
              refine v_call_on hC [] rfl rfl rfl rfl (congrArg Bool.not hb7) rfl rfl rfl Try.call43 (laws_eqPacketS_ac hq) rfl (by decide) trivial rfl (.inr ⟨rfl, trivial⟩) rfl ?_
              refine v_on hT hC rfl rfl rfl rfl (congrArg Bool.not hb7) rfl rfl rfl trivial ?_
              refine v_pick hC rfl rfl rfl (b := false) (congrArg Bool.not hb7) rfl rfl rfl trivial ?_
              refine v_op hT hC rfl rfl rfl rfl trivial ?_
              rcases sel_some h with ⟨hb8, h⟩ | ⟨hb8, h⟩
              · iterate 3 refine v_on hT hC rfl rfl rfl rfl (congrArg Bool.not hb8) rfl rfl rfl trivial ?_
                refine v_pick hC rfl rfl rfl (b := false) (congrArg Bool.not hb8) rfl rfl rfl trivial ?_
                refine Vc.nil ?_
                injection h with h
                subst h
                refine m_norm ?_
                apply w_conv hC []
                · repeat' first | exact CO.nil | apply CO.gone | apply CO.row rfl rfl | apply CO.box rfl rfl | decide
                · rfl
                · decide
                · rfl
              · refine v_off hC rfl rfl rfl rfl (congrArg Bool.not hb8) rfl rfl ?_
                refine v_off hC rfl rfl rfl rfl (congrArg Bool.not hb8) rfl rfl ?_
                refine v_off hC rfl rfl rfl rfl (congrArg Bool.not hb8) rfl rfl ?_
                refine v_pick hC rfl rfl rfl (b := true) (congrArg Bool.not hb8) rfl rfl rfl trivial ?_
                refine Vc.nil ?_
                injection h with h
                subst h
                refine m_norm ?_
                apply w_conv hC []
                · repeat' first | exact CO.nil | apply CO.gone | apply CO.row rfl rfl | apply CO.box rfl rfl | decide
                · rfl
                · decide
                · rfl
            · refine v_off hC rfl rfl rfl rfl (congrArg Bool.not hb7) rfl rfl ?_
              refine v_off hC rfl rfl rfl rfl (congrArg Bool.not hb7) rfl rfl ?_
              refine v_off hC rfl rfl rfl rfl (congrArg Bool.not hb7) rfl rfl ?_
              refine v_off hC rfl rfl rfl rfl (congrArg Bool.not hb7) rfl rfl ?_
              refine v_pick hC rfl rfl rfl (b := true) (congrArg Bool.not hb7) rfl rfl rfl trivial ?_
              refine v_op hT hC rfl rfl rfl rfl trivial ?_
              refine v_off hC rfl rfl rfl rfl rfl rfl rfl ?_
              refine v_off hC rfl rfl rfl rfl rfl rfl rfl ?_
              refine v_off hC rfl rfl rfl rfl rfl rfl rfl ?_
              refine v_op hT hC rfl rfl rfl rfl trivial ?_
              refine Vc.nil ?_
              injection h with h
              subst h
              refine m_norm ?_
              apply w_conv hC []
              · repeat' first | exact CO.nil | apply CO.gone | apply CO.row rfl rfl | apply CO.box rfl rfl | decide
              · rfl
              · decide
              · rfl
        rcases sel_some h with ⟨hb9, h⟩ | ⟨hb9, h⟩
        · refine s_true rfl hb9 ?_
          refine s_reg ?_
          refine v_op hT hC rfl rfl rfl rfl trivial ?_
          refine Vc.nil ?_
          refine aw_ret ?_
          refine t_ret ?_
          injection h with h
          subst h
          exact ends (Weak.refl _) rfl trivial
        · refine s_false rfl hb9 ?_
          refine aw_skip ?_
          refine t_norm ?_
          refine s_reg ?_
          refine v_op hT hC rfl rfl rfl rfl trivial ?_
          refine Vc.nil ?_
          refine s_reg ?_
          iterate 2 refine v_op hT hC rfl rfl rfl rfl trivial ?_
          obtain ⟨q15, hq, h⟩ := bnd_some h
          refine v_call hC [(2, 592)] rfl rfl rfl rfl Try.call58 (laws_markQueue_ac hq) rfl (by decide) ⟨rfl, trivial⟩ rfl (.inl rfl) rfl ?_
          refine v_op hT hC rfl rfl rfl rfl trivial ?_
          refine Vc.nil ?_
          refine s_reg ?_
          iterate 2 refine v_op hT hC rfl rfl rfl rfl trivial ?_
          obtain ⟨q16, hq, h⟩ := bnd_some h
          refine v_call hC [(0, 593)] rfl rfl rfl rfl Try.call44 (laws_markPacketS_ac hq) rfl (by decide) ⟨rfl, trivial⟩ rfl (.inl rfl) rfl ?_
          refine v_op hT hC rfl rfl rfl rfl trivial ?_
          refine Vc.nil ?_
          refine s_reg ?_
          refine v_op hT hC rfl rfl rfl rfl trivial ?_
          refine Vc.nil ?_
          refine s_reg ?_
          iterate 2 refine v_op hT hC rfl rfl rfl rfl trivial ?_
          obtain ⟨q17, hq, h⟩ := bnd_some h
          refine v_call hC [] rfl rfl rfl rfl Try.call59 (laws_heldQueue_ac hq) rfl (by decide) trivial rfl (.inr ⟨rfl, trivial⟩) rfl ?_
          refine v_op hT hC rfl rfl rfl rfl trivial ?_
          refine Vc.nil ?_
          refine s_in ?_
          refine s_reg ?_
          iterate 2 refine v_op hT hC rfl rfl rfl rfl trivial ?_
          refine Vc.nil ?_
          rcases sel_some h with ⟨hb10, h⟩ | ⟨hb10, h⟩
          · refine s_true rfl hb10 ?_
            refine s_reg ?_
            refine v_op hT hC rfl rfl rfl rfl trivial ?_
            refine Vc.nil ?_
            refine aw_ret ?_
            refine t_ret ?_
            injection h with h
            subst h
            exact ends (Weak.refl _) rfl trivial
          · refine s_false rfl hb10 ?_
            refine aw_skip ?_
            refine t_norm ?_
            refine s_reg ?_
            iterate 2 refine v_op hT hC rfl rfl rfl rfl trivial ?_
            obtain ⟨q18, hq, h⟩ := bnd_some h
            refine v_call hC [] rfl rfl rfl rfl Try.call60 (laws_heldPacketS_ac hq) rfl (by decide) trivial rfl (.inr ⟨rfl, trivial⟩) rfl ?_
            refine v_op hT hC rfl rfl rfl rfl trivial ?_
            refine Vc.nil ?_
            refine s_in ?_
            refine s_reg ?_
            iterate 2 refine v_op hT hC rfl rfl rfl rfl trivial ?_
            refine Vc.nil ?_
            rcases sel_some h with ⟨hb11, h⟩ | ⟨hb11, h⟩
            · refine s_true rfl hb11 ?_
              refine s_reg ?_
              refine v_op hT hC rfl rfl rfl rfl trivial ?_
              refine Vc.nil ?_
              refine aw_ret ?_
              refine t_ret ?_
              injection h with h
              subst h
              exact ends (Weak.refl _) rfl trivial
            · refine s_false rfl hb11 ?_
              refine aw_skip ?_
              refine t_norm ?_
              refine s_in ?_
              refine s_reg ?_
              iterate 3 refine v_op hT hC rfl rfl rfl rfl trivial ?_
              refine Vc.nil ?_
              rcases sel_some h with ⟨hb12, h⟩ | ⟨hb12, h⟩
              · refine s_true rfl hb12 ?_
                refine s_reg ?_
                refine v_op hT hC rfl rfl rfl rfl trivial ?_
                refine Vc.nil ?_
                refine aw_ret ?_
                refine t_ret ?_
                injection h with h
                subst h
                exact ends (Weak.refl _) rfl trivial
              · refine s_false rfl hb12 ?_
                refine aw_skip ?_
                refine t_norm ?_
                refine s_reg ?_
                refine v_op hT hC rfl rfl rfl rfl trivial ?_
                obtain ⟨q19, hq, h⟩ := bnd_some h
                refine v_call hC [(16, 1664)] rfl rfl rfl rfl Try.call55 (laws_toQueue_ac hq) rfl (by decide) trivial rfl (.inl rfl) rfl ?_
                refine v_op hT hC rfl rfl rfl rfl trivial ?_
                obtain ⟨q20, hq, h⟩ := bnd_some h
                refine v_call hC [(16, 1696), (17, 1697)] rfl rfl rfl rfl Try.call56 (impl_QueueTick_ac hq) rfl (by decide) trivial rfl (.inr ⟨rfl, ⟨fun _ => rfl, fun _ => rfl, trivial⟩⟩) rfl ?_
                iterate 8 refine v_op hT hC rfl rfl rfl rfl trivial ?_
                refine Vc.nil ?_
                refine s_in ?_
                refine live [6, 7, 8, 10, 11, 14, 16, 17, 18] [96, 160, 256, 448, 449, 592, 593, 1696, 1697] (s' := [_, _, _, _, _, _, _, _, _]) (o' := [_, _, _, _, _, _, _, _, _]) rfl rfl ?_
                obtain ⟨v21, h1, h⟩ := bnd_some h
                refine aw_to ([(124, .sv (.bool v21)), (6, .any), (7, .any), (8, .any), (16, .any), (17, .any), (18, .any)], [(96, none), (256, none), (448, none), (449, none), (1696, none), (1697, none)]) ?_ ?_
                · have h := h1
                  refine aw_region ?_
                  iterate 2 refine v_op hT hC rfl rfl rfl rfl trivial ?_
                  obtain ⟨q22, hq, h⟩ := bnd_some h
                  refine v_call hC [] rfl rfl rfl rfl Try.call57 (laws_eqQueue_ac hq) rfl (by decide) trivial rfl (.inr ⟨rfl, trivial⟩) rfl ?_
                  iterate 2 refine v_op hT hC rfl rfl rfl rfl trivial ?_
                  rcases sel_some h with ⟨hb13, h⟩ | ⟨hb13, h⟩
                  · iterate 2 refine v_on hT hC rfl rfl rfl rfl (congrArg Bool.not hb13) rfl rfl rfl trivial ?_
                    obtain ⟨q23, hq, h⟩ := bnd_some h
                    refine v_call_on hC [] rfl rfl rfl rfl (congrArg Bool.not hb13) rfl rfl rfl Try.call43 (laws_eqPacketS_ac hq) rfl (by decide) trivial rfl (.inr ⟨rfl, trivial⟩) rfl ?_
                    refine v_on hT hC rfl rfl rfl rfl (congrArg Bool.not hb13) rfl rfl rfl trivial ?_
                    refine v_pick hC rfl rfl rfl (b := false) (congrArg Bool.not hb13) rfl rfl rfl trivial ?_
                    refine v_op hT hC rfl rfl rfl rfl trivial ?_
                    rcases sel_some h with ⟨hb14, h⟩ | ⟨hb14, h⟩
                    · iterate 3 refine v_on hT hC rfl rfl rfl rfl (congrArg Bool.not hb14) rfl rfl rfl trivial ?_
                      refine v_pick hC rfl rfl rfl (b := false) (congrArg Bool.not hb14) rfl rfl rfl trivial ?_
                      refine Vc.nil ?_
                      injection h with h
                      subst h
                      refine m_norm ?_
                      apply w_conv hC []
                      · repeat' first | exact CO.nil | apply CO.gone | apply CO.row rfl rfl | apply CO.box rfl rfl | decide
                      · rfl
                      · decide
                      · rfl
                    · refine v_off hC rfl rfl rfl rfl (congrArg Bool.not hb14) rfl rfl ?_
                      refine v_off hC rfl rfl rfl rfl (congrArg Bool.not hb14) rfl rfl ?_
                      refine v_off hC rfl rfl rfl rfl (congrArg Bool.not hb14) rfl rfl ?_
                      refine v_pick hC rfl rfl rfl (b := true) (congrArg Bool.not hb14) rfl rfl rfl trivial ?_
                      refine Vc.nil ?_
                      injection h with h
                      subst h
                      refine m_norm ?_
                      apply w_conv hC []
                      · repeat' first | exact CO.nil | apply CO.gone | apply CO.row rfl rfl | apply CO.box rfl rfl | decide
                      · rfl
                      · decide
                      · rfl
                  · refine v_off hC rfl rfl rfl rfl (congrArg Bool.not hb13) rfl rfl ?_
                    refine v_off hC rfl rfl rfl rfl (congrArg Bool.not hb13) rfl rfl ?_
                    refine v_off hC rfl rfl rfl rfl (congrArg Bool.not hb13) rfl rfl ?_
                    refine v_off hC rfl rfl rfl rfl (congrArg Bool.not hb13) rfl rfl ?_
                    refine v_pick hC rfl rfl rfl (b := true) (congrArg Bool.not hb13) rfl rfl rfl trivial ?_
                    refine v_op hT hC rfl rfl rfl rfl trivial ?_
                    refine v_off hC rfl rfl rfl rfl rfl rfl rfl ?_
                    refine v_off hC rfl rfl rfl rfl rfl rfl rfl ?_
                    refine v_off hC rfl rfl rfl rfl rfl rfl rfl ?_
                    refine v_op hT hC rfl rfl rfl rfl trivial ?_
                    refine Vc.nil ?_
                    injection h with h
                    subst h
                    refine m_norm ?_
                    apply w_conv hC []
                    · repeat' first | exact CO.nil | apply CO.gone | apply CO.row rfl rfl | apply CO.box rfl rfl | decide
                    · rfl
                    · decide
                    · rfl
                rcases sel_some h with ⟨hb15, h⟩ | ⟨hb15, h⟩
                · refine s_true rfl hb15 ?_
                  refine s_reg ?_
                  refine v_op hT hC rfl rfl rfl rfl trivial ?_
                  refine Vc.nil ?_
                  refine aw_ret ?_
                  refine t_ret ?_
                  injection h with h
                  subst h
                  exact ends (Weak.refl _) rfl trivial
                · refine s_false rfl hb15 ?_
                  refine aw_skip ?_
                  refine t_norm ?_
                  refine s_reg ?_
                  refine v_op hT hC rfl rfl rfl rfl trivial ?_
                  refine Vc.nil ?_
                  refine s_reg ?_
                  iterate 2 refine v_op hT hC rfl rfl rfl rfl trivial ?_
                  obtain ⟨q24, hq, h⟩ := bnd_some h
                  refine v_call hC [] rfl rfl rfl rfl Try.call59 (laws_heldQueue_ac hq) rfl (by decide) trivial rfl (.inr ⟨rfl, trivial⟩) rfl ?_
                  refine v_op hT hC rfl rfl rfl rfl trivial ?_
                  refine Vc.nil ?_
                  refine s_in ?_
                  refine s_reg ?_
                  iterate 2 refine v_op hT hC rfl rfl rfl rfl trivial ?_
                  refine Vc.nil ?_
                  rcases sel_some h with ⟨hb16, h⟩ | ⟨hb16, h⟩
                  · refine s_true rfl hb16 ?_
                    refine s_reg ?_
                    refine v_op hT hC rfl rfl rfl rfl trivial ?_
                    refine Vc.nil ?_
                    refine aw_ret ?_
                    refine t_ret ?_
                    injection h with h
                    subst h
                    exact ends (Weak.refl _) rfl trivial
                  · refine s_false rfl hb16 ?_
                    refine aw_skip ?_
                    refine t_norm ?_
                    refine s_reg ?_
                    iterate 2 refine v_op hT hC rfl rfl rfl rfl trivial ?_
                    obtain ⟨q25, hq, h⟩ := bnd_some h
                    refine v_call hC [] rfl rfl rfl rfl Try.call60 (laws_heldPacketS_ac hq) rfl (by decide) trivial rfl (.inr ⟨rfl, trivial⟩) rfl ?_
                    refine v_op hT hC rfl rfl rfl rfl trivial ?_
                    refine Vc.nil ?_
                    refine s_in ?_
                    refine s_reg ?_
                    iterate 2 refine v_op hT hC rfl rfl rfl rfl trivial ?_
                    refine Vc.nil ?_
                    rcases sel_some h with ⟨hb17, h⟩ | ⟨hb17, h⟩
                    · refine s_true rfl hb17 ?_
                      refine s_reg ?_
                      refine v_op hT hC rfl rfl rfl rfl trivial ?_
                      refine Vc.nil ?_
                      refine aw_ret ?_
                      refine t_ret ?_
                      injection h with h
                      subst h
                      exact ends (Weak.refl _) rfl trivial
                    · refine s_false rfl hb17 ?_
                      refine aw_skip ?_
                      refine t_norm ?_
                      refine s_in ?_
                      refine s_reg ?_
                      iterate 3 refine v_op hT hC rfl rfl rfl rfl trivial ?_
                      refine Vc.nil ?_
                      rcases sel_some h with ⟨hb18, h⟩ | ⟨hb18, h⟩
                      · refine s_true rfl hb18 ?_
                        refine s_reg ?_
                        refine v_op hT hC rfl rfl rfl rfl trivial ?_
                        refine Vc.nil ?_
                        refine aw_ret ?_
                        refine t_ret ?_
                        injection h with h
                        subst h
                        exact ends (Weak.refl _) rfl trivial
                      · refine s_false rfl hb18 ?_
                        refine aw_skip ?_
                        refine t_norm ?_
                        refine s_reg ?_
                        refine v_op hT hC rfl rfl rfl rfl trivial ?_
                        refine Vc.nil ?_
                        refine aw_ret ?_
                        injection h with h
                        subst h
                        exact ends (Weak.refl _) rfl trivial
end
end Go.Proofs.Ytplmeeookgefnaa.A
