/- Contracts of the functions that the law FnExactPictureOf reaches, part 1: each comes to what its pure function tells. Written by a program of this session. Conditions: as each statement tells. -/
import Derived.Test.YtplmeeookgefnaaFFnExactPictureOfx0
namespace Go.Proofs.Ytplmeeookgefnaa.A
open Go Go.Proofs Go.Proofs.YtplmeeookgefnaaAL Go.RowKit
set_option linter.unusedVariables false
set_option linter.unusedSimpArgs false
set_option maxRecDepth 100000
set_option maxHeartbeats 2000000
noncomputable section
def laws_FnExactPictureOf_res (r : Bool) : AV := .sv (.bool r)
def laws_FnExactPictureOf_obs (r : Bool) : Objs := []
theorem laws_FnExactPictureOf_ac {p0 : (List Packet)} {r : Bool} (h : laws_FnExactPictureOf p0 = some r) : AC Try.prog 6 [.sv (cPacket.sv p0)] [] (laws_FnExactPictureOf_res r) (laws_FnExactPictureOf_obs r) := by
  refine ac_of_body hT Try.func6 rfl fun C hC => ?_
  unfold laws_FnExactPictureOf at h
  refine s_reg ?_
  refine v_op hT hC rfl rfl rfl rfl trivial ?_
  refine Vc.nil ?_
  refine s_reg ?_
  refine v_op hT hC rfl rfl rfl rfl trivial ?_
  refine Vc.nil ?_
  refine s_reg ?_
  iterate 2 refine v_op hT hC rfl rfl rfl rfl trivial ?_
  obtain ⟨q1, hq, h⟩ := bnd_some h
  refine v_call hC [] rfl rfl rfl rfl Try.call38 (laws_szPacketS_ac hq) rfl (by decide) trivial rfl (.inl rfl) rfl ?_
  refine v_op hT hC rfl rfl rfl rfl trivial ?_
  refine Vc.nil ?_
  refine s_in ?_
  refine s_reg ?_
  iterate 2 refine v_op hT hC rfl rfl rfl rfl trivial ?_
  refine Vc.nil ?_
  rcases sel_some h with ⟨hb1, h⟩ | ⟨hb1, h⟩
  · refine s_true rfl hb1 ?_
    refine s_reg ?_
    refine v_op hT hC rfl rfl rfl rfl trivial ?_
    refine Vc.nil ?_
    refine aw_ret ?_
    refine t_ret ?_
    injection h with h
    subst h
    exact ends (Weak.refl _) rfl trivial
  · refine s_false rfl hb1 ?_
    refine aw_skip ?_
    refine t_norm ?_
    refine s_reg ?_
    refine v_op hT hC rfl rfl rfl rfl trivial ?_
    obtain ⟨q2, hq, h⟩ := bnd_some h
    refine v_call hC [(16, 336)] rfl rfl rfl rfl Try.call40 (laws_toPacketS_ac hq) rfl (by decide) trivial rfl (.inl rfl) rfl ?_
    obtain ⟨q3, hq, h⟩ := bnd_some h
    refine v_call hC [(16, 352)] rfl rfl rfl rfl Try.call39 (spec_PictureOf_ac hq) rfl (by decide) trivial rfl (.inr ⟨rfl, ⟨fun _ => rfl, trivial⟩⟩) rfl ?_
    iterate 5 refine v_op hT hC rfl rfl rfl rfl trivial ?_
    refine Vc.nil ?_
    refine s_reg ?_
    refine v_op hT hC rfl rfl rfl rfl trivial ?_
    obtain ⟨q4, hq, h⟩ := bnd_some h
    refine v_call hC [(16, 416)] rfl rfl rfl rfl Try.call40 (laws_toPacketS_ac hq) rfl (by decide) trivial rfl (.inl rfl) rfl ?_
    refine v_op hT hC rfl rfl rfl rfl trivial ?_
    refine Vc.nil ?_
    refine s_reg ?_
    refine v_op hT hC rfl rfl rfl rfl trivial ?_
    obtain ⟨q5, hq, h⟩ := bnd_some h
    refine v_call hC [(16, 464)] rfl rfl rfl rfl Try.call41 (impl_PictureOf_ac hq) rfl (by decide) trivial rfl (.inr ⟨rfl, ⟨fun _ => rfl, trivial⟩⟩) rfl ?_
    iterate 5 refine v_op hT hC rfl rfl rfl rfl trivial ?_
    refine Vc.nil ?_
    refine s_in ?_
    refine live [0, 4, 5, 6, 7, 8] [352, 416, 464] (s' := [_, _, _, _, _, _]) (o' := [_, _, _]) rfl rfl ?_
    obtain ⟨v6, h1, h⟩ := bnd_some h
    refine aw_to ([(40, .sv (.bool v6))], []) ?_ ?_
    · have h := h1
      refine aw_region ?_
      iterate 2 refine v_op hT hC rfl rfl rfl rfl trivial ?_
      obtain ⟨q7, hq, h⟩ := bnd_some h
      refine v_call hC [] rfl rfl rfl rfl Try.call42 (laws_eqStringS_ac hq) rfl (by decide) trivial rfl (.inr ⟨rfl, trivial⟩) rfl ?_
      iterate 2 refine v_op hT hC rfl rfl rfl rfl trivial ?_
      rcases sel_some h with ⟨hb2, h⟩ | ⟨hb2, h⟩
      · iterate 3 refine v_on hT hC rfl rfl rfl rfl (congrArg Bool.not hb2) rfl rfl rfl trivial ?_
        refine v_pick hC rfl rfl rfl (b := false) (congrArg Bool.not hb2) rfl rfl rfl trivial ?_
        refine Vc.nil ?_
        injection h with h
        subst h
        refine m_norm ?_
        apply w_conv hC []
        · repeat' first | exact CO.nil | apply CO.gone | apply CO.row rfl rfl | apply CO.box rfl rfl | decide
        · rfl
        · decide
        · rfl
      · refine v_off hC rfl rfl rfl rfl (congrArg Bool.not hb2) rfl rfl ?_
        refine v_off hC rfl rfl rfl rfl (congrArg Bool.not hb2) rfl rfl ?_
        refine v_off hC rfl rfl rfl rfl (congrArg Bool.not hb2) rfl rfl ?_
        refine v_pick hC rfl rfl rfl (b := true) (congrArg Bool.not hb2) rfl rfl rfl trivial ?_
        refine Vc.nil ?_
        injection h with h
        subst h
        refine m_norm ?_
        apply w_conv hC []
        · repeat' first | exact CO.nil | apply CO.gone | apply CO.row rfl rfl | apply CO.box rfl rfl | decide
        · rfl
        · decide
        · rfl
    rcases sel_some h with ⟨hb3, h⟩ | ⟨hb3, h⟩
    · refine s_true rfl hb3 ?_
      refine s_reg ?_
      refine v_op hT hC rfl rfl rfl rfl trivial ?_
      refine Vc.nil ?_
      refine aw_ret ?_
      refine t_ret ?_
      injection h with h
      subst h
      exact ends (Weak.refl _) rfl trivial
    · refine s_false rfl hb3 ?_
      refine aw_skip ?_
      refine t_norm ?_
      refine s_in ?_
      refine s_reg ?_
      iterate 2 refine v_op hT hC rfl rfl rfl rfl trivial ?_
      obtain ⟨q8, hq, h⟩ := bnd_some h
      refine v_call hC [(16, 688)] rfl rfl rfl rfl Try.call40 (laws_toPacketS_ac hq) rfl (by decide) trivial rfl (.inl rfl) rfl ?_
      obtain ⟨q9, hq, h⟩ := bnd_some h
      refine v_call hC [] rfl rfl rfl rfl Try.call43 (laws_eqPacketS_ac hq) rfl (by decide) trivial rfl (.inr ⟨rfl, trivial⟩) rfl ?_
      refine v_op hT hC rfl rfl rfl rfl trivial ?_
      refine Vc.nil ?_
      rcases sel_some h with ⟨hb4, h⟩ | ⟨hb4, h⟩
      · refine s_true rfl hb4 ?_
        refine s_reg ?_
        refine v_op hT hC rfl rfl rfl rfl trivial ?_
        refine Vc.nil ?_
        refine aw_ret ?_
        refine t_ret ?_
        injection h with h
        subst h
        exact ends (Weak.refl _) rfl trivial
      · refine s_false rfl hb4 ?_
        refine aw_skip ?_
        refine t_norm ?_
        refine s_reg ?_
        refine v_op hT hC rfl rfl rfl rfl trivial ?_
        refine Vc.nil ?_
        refine s_reg ?_
        iterate 2 refine v_op hT hC rfl rfl rfl rfl trivial ?_
        obtain ⟨q10, hq, h⟩ := bnd_some h
        refine v_call hC [(0, 416)] rfl rfl rfl rfl Try.call44 (laws_markPacketS_ac hq) rfl (by decide) ⟨rfl, trivial⟩ rfl (.inl rfl) rfl ?_
        refine v_op hT hC rfl rfl rfl rfl trivial ?_
        refine Vc.nil ?_
        refine s_in ?_
        refine live [0, 4, 5, 7, 8, 9] [352, 464] (s' := [_, _, _, _, _, _]) (o' := [_, _]) rfl rfl ?_
        obtain ⟨v11, h1, h⟩ := bnd_some h
        refine aw_to ([(61, .sv (.bool v11)), (8, .any), (9, .any)], []) ?_ ?_
        · have h := h1
          refine aw_region ?_
          iterate 3 refine v_op hT hC rfl rfl rfl rfl trivial ?_
          rcases sel_some h with ⟨hb5, h⟩ | ⟨hb5, h⟩
          · refine v_off hC rfl rfl rfl rfl hb5 rfl rfl ?_
            refine v_off hC rfl rfl rfl rfl hb5 rfl rfl ?_
            refine v_off hC rfl rfl rfl rfl hb5 rfl rfl ?_
            refine v_off hC rfl rfl rfl rfl hb5 rfl rfl ?_
            refine v_pick hC rfl rfl rfl (b := true) hb5 rfl rfl rfl trivial ?_
            refine v_op hT hC rfl rfl rfl rfl trivial ?_
            refine v_off hC rfl rfl rfl rfl rfl rfl rfl ?_
            refine v_off hC rfl rfl rfl rfl rfl rfl rfl ?_
            refine v_off hC rfl rfl rfl rfl rfl rfl rfl ?_
            refine v_op hT hC rfl rfl rfl rfl trivial ?_
            refine Vc.nil ?_
            injection h with h
            subst h
            refine m_norm ?_
            apply w_conv hC []
            · repeat' first | exact CO.nil | apply CO.gone | apply CO.row rfl rfl | apply CO.box rfl rfl | decide
            · rfl
            · decide
            · rfl
          · iterate 2 refine v_on hT hC rfl rfl rfl rfl hb5 rfl rfl rfl trivial ?_
            obtain ⟨q12, hq, h⟩ := bnd_some h
            refine v_call_on hC [] rfl rfl rfl rfl hb5 rfl rfl rfl Try.call42 (laws_eqStringS_ac hq) rfl (by decide) trivial rfl (.inr ⟨rfl, trivial⟩) rfl ?_
            refine v_on hT hC rfl rfl rfl rfl hb5 rfl rfl rfl trivial ?_
            refine v_pick hC rfl rfl rfl (b := false) hb5 rfl rfl rfl trivial ?_
            refine v_op hT hC rfl rfl rfl rfl trivial ?_
            rcases sel_some h with ⟨hb6, h⟩ | ⟨hb6, h⟩
            · iterate 3 refine v_on hT hC rfl rfl rfl rfl (congrArg Bool.not hb6) rfl rfl rfl trivial ?_
              refine v_pick hC rfl rfl rfl (b := false) (congrArg Bool.not hb6) rfl rfl rfl trivial ?_
              refine Vc.nil ?_
              injection h with h
              subst h
              refine m_norm ?_
              apply w_conv hC []
              · repeat' first | exact CO.nil | apply CO.gone | apply CO.row rfl rfl | apply CO.box rfl rfl | decide
              · rfl
              · decide
              · rfl
            · refine v_off hC rfl rfl rfl rfl (congrArg Bool.not hb6) rfl rfl ?_
              refine v_off hC rfl rfl rfl rfl (congrArg Bool.not hb6) rfl rfl ?_
              refine v_off hC rfl rfl rfl rfl (congrArg Bool.not hb6) rfl rfl ?_
              refine v_pick hC rfl rfl rfl (b := true) (congrArg Bool.not hb6) rfl rfl rfl trivial ?_
              refine Vc.nil ?_
              injection h with h
              subst h
              refine m_norm ?_
              apply w_conv hC []
              · repeat' first | exact CO.nil | apply CO.gone | apply CO.row rfl rfl | apply CO.box rfl rfl | decide
              · rfl
              · decide
              · rfl
        rcases sel_some h with ⟨hb7, h⟩ | ⟨hb7, h⟩
        · refine s_true rfl hb7 ?_
          refine s_reg ?_
          refine v_op hT hC rfl rfl rfl rfl trivial ?_
          refine Vc.nil ?_
          refine aw_ret ?_
          refine t_ret ?_
          injection h with h
          subst h
          exact ends (Weak.refl _) rfl trivial
        · refine s_false rfl hb7 ?_
          refine aw_skip ?_
          refine t_norm ?_
          refine s_reg ?_
          refine v_op hT hC rfl rfl rfl rfl trivial ?_
          refine Vc.nil ?_
          refine s_reg ?_
          iterate 2 refine v_op hT hC rfl rfl rfl rfl trivial ?_
          obtain ⟨q13, hq, h⟩ := bnd_some h
          refine v_call hC [(0, 464)] rfl rfl rfl rfl Try.call45 (laws_markStringS_ac hq) rfl (by decide) ⟨rfl, trivial⟩ rfl (.inl rfl) rfl ?_
          refine v_op hT hC rfl rfl rfl rfl trivial ?_
          refine Vc.nil ?_
          refine s_reg ?_
          refine v_op hT hC rfl rfl rfl rfl trivial ?_
          refine Vc.nil ?_
          refine s_reg ?_
          iterate 2 refine v_op hT hC rfl rfl rfl rfl trivial ?_
          obtain ⟨q14, hq, h⟩ := bnd_some h
          refine v_call hC [] rfl rfl rfl rfl Try.call46 (laws_heldStringS_ac hq) rfl (by decide) trivial rfl (.inr ⟨rfl, trivial⟩) rfl ?_
          refine v_op hT hC rfl rfl rfl rfl trivial ?_
          refine Vc.nil ?_
          refine s_in ?_
          refine s_reg ?_
          iterate 2 refine v_op hT hC rfl rfl rfl rfl trivial ?_
          refine Vc.nil ?_
          rcases sel_some h with ⟨hb8, h⟩ | ⟨hb8, h⟩
          · refine s_true rfl hb8 ?_
            refine s_reg ?_
            refine v_op hT hC rfl rfl rfl rfl trivial ?_
            refine Vc.nil ?_
            refine aw_ret ?_
            refine t_ret ?_
            injection h with h
            subst h
            exact ends (Weak.refl _) rfl trivial
          · refine s_false rfl hb8 ?_
            refine aw_skip ?_
            refine t_norm ?_
            refine s_in ?_
            refine s_reg ?_
            iterate 3 refine v_op hT hC rfl rfl rfl rfl trivial ?_
            refine Vc.nil ?_
            rcases sel_some h with ⟨hb9, h⟩ | ⟨hb9, h⟩
            · refine s_true rfl hb9 ?_
              refine s_reg ?_
              refine v_op hT hC rfl rfl rfl rfl trivial ?_
              refine Vc.nil ?_
              refine aw_ret ?_
              refine t_ret ?_
              injection h with h
              subst h
              exact ends (Weak.refl _) rfl trivial
            · refine s_false rfl hb9 ?_
              refine aw_skip ?_
              refine t_norm ?_
              refine s_reg ?_
              refine v_op hT hC rfl rfl rfl rfl trivial ?_
              obtain ⟨q15, hq, h⟩ := bnd_some h
              refine v_call hC [(16, 1200)] rfl rfl rfl rfl Try.call40 (laws_toPacketS_ac hq) rfl (by decide) trivial rfl (.inl rfl) rfl ?_
              obtain ⟨q16, hq, h⟩ := bnd_some h
              refine v_call hC [(16, 1216)] rfl rfl rfl rfl Try.call41 (impl_PictureOf_ac hq) rfl (by decide) trivial rfl (.inr ⟨rfl, ⟨fun _ => rfl, trivial⟩⟩) rfl ?_
              iterate 5 refine v_op hT hC rfl rfl rfl rfl trivial ?_
              refine Vc.nil ?_
              refine s_in ?_
              refine live [4, 5, 7, 10, 12, 13] [352, 464, 1216] (s' := [_, _, _, _, _, _]) (o' := [_, _, _]) rfl rfl ?_
              obtain ⟨v17, h1, h⟩ := bnd_some h
              refine aw_to ([(87, .sv (.bool v17)), (4, .any), (5, .any), (12, .any), (13, .any)], [(352, none), (1216, none)]) ?_ ?_
              · have h := h1
                refine aw_region ?_
                iterate 2 refine v_op hT hC rfl rfl rfl rfl trivial ?_
                obtain ⟨q18, hq, h⟩ := bnd_some h
                refine v_call hC [] rfl rfl rfl rfl Try.call42 (laws_eqStringS_ac hq) rfl (by decide) trivial rfl (.inr ⟨rfl, trivial⟩) rfl ?_
                iterate 2 refine v_op hT hC rfl rfl rfl rfl trivial ?_
                rcases sel_some h with ⟨hb10, h⟩ | ⟨hb10, h⟩
                · iterate 3 refine v_on hT hC rfl rfl rfl rfl (congrArg Bool.not hb10) rfl rfl rfl trivial ?_
                  refine v_pick hC rfl rfl rfl (b := false) (congrArg Bool.not hb10) rfl rfl rfl trivial ?_
                  refine Vc.nil ?_
                  injection h with h
                  subst h
                  refine m_norm ?_
                  apply w_conv hC []
                  · repeat' first | exact CO.nil | apply CO.gone | apply CO.row rfl rfl | apply CO.box rfl rfl | decide
                  · rfl
                  · decide
                  · rfl
                · refine v_off hC rfl rfl rfl rfl (congrArg Bool.not hb10) rfl rfl ?_
                  refine v_off hC rfl rfl rfl rfl (congrArg Bool.not hb10) rfl rfl ?_
                  refine v_off hC rfl rfl rfl rfl (congrArg Bool.not hb10) rfl rfl ?_
                  refine v_pick hC rfl rfl rfl (b := true) (congrArg Bool.not hb10) rfl rfl rfl trivial ?_
                  refine Vc.nil ?_
                  injection h with h
                  subst h
                  refine m_norm ?_
                  apply w_conv hC []
                  · repeat' first | exact CO.nil | apply CO.gone | apply CO.row rfl rfl | apply CO.box rfl rfl | decide
                  · rfl
                  · decide
                  · rfl
              rcases sel_some h with ⟨hb11, h⟩ | ⟨hb11, h⟩
              · refine s_true rfl hb11 ?_
                refine s_reg ?_
                refine v_op hT hC rfl rfl rfl rfl trivial ?_
                refine Vc.nil ?_
                refine aw_ret ?_
                refine t_ret ?_
                injection h with h
                subst h
                exact ends (Weak.refl _) rfl trivial
              · refine s_false rfl hb11 ?_
                refine aw_skip ?_
                refine t_norm ?_
                refine s_reg ?_
                refine v_op hT hC rfl rfl rfl rfl trivial ?_
                refine Vc.nil ?_
                refine s_reg ?_
                iterate 2 refine v_op hT hC rfl rfl rfl rfl trivial ?_
                obtain ⟨q19, hq, h⟩ := bnd_some h
                refine v_call hC [] rfl rfl rfl rfl Try.call46 (laws_heldStringS_ac hq) rfl (by decide) trivial rfl (.inr ⟨rfl, trivial⟩) rfl ?_
                refine v_op hT hC rfl rfl rfl rfl trivial ?_
                refine Vc.nil ?_
                refine s_in ?_
                refine s_reg ?_
                iterate 2 refine v_op hT hC rfl rfl rfl rfl trivial ?_
                refine Vc.nil ?_
                rcases sel_some h with ⟨hb12, h⟩ | ⟨hb12, h⟩
                · refine s_true rfl hb12 ?_
                  refine s_reg ?_
                  refine v_op hT hC rfl rfl rfl rfl trivial ?_
                  refine Vc.nil ?_
                  refine aw_ret ?_
                  refine t_ret ?_
                  injection h with h
                  subst h
                  exact ends (Weak.refl _) rfl trivial
                · refine s_false rfl hb12 ?_
                  refine aw_skip ?_
                  refine t_norm ?_
                  refine s_in ?_
                  refine s_reg ?_
                  iterate 3 refine v_op hT hC rfl rfl rfl rfl trivial ?_
                  refine Vc.nil ?_
                  rcases sel_some h with ⟨hb13, h⟩ | ⟨hb13, h⟩
                  · refine s_true rfl hb13 ?_
                    refine s_reg ?_
                    refine v_op hT hC rfl rfl rfl rfl trivial ?_
                    refine Vc.nil ?_
                    refine aw_ret ?_
                    refine t_ret ?_
                    injection h with h
                    subst h
                    exact ends (Weak.refl _) rfl trivial
                  · refine s_false rfl hb13 ?_
                    refine aw_skip ?_
                    refine t_norm ?_
                    refine s_reg ?_
                    refine v_op hT hC rfl rfl rfl rfl trivial ?_
                    refine Vc.nil ?_
                    refine aw_ret ?_
                    injection h with h
                    subst h
                    exact ends (Weak.refl _) rfl trivial
end
end Go.Proofs.Ytplmeeookgefnaa.A
