/- Contracts of the functions that the law FnSends reaches, part 3: each comes to what its pure function tells. Written by a program of this session. Conditions: as each statement tells. -/
import Derived.Test.YtjfkbpgdghijfaaFFnSendsx2
namespace Go.Proofs.Ytjfkbpgdghijfaa.A
open Go Go.Proofs Go.Proofs.YtjfkbpgdghijfaaAL Go.RowKit
set_option linter.unusedVariables false
set_option linter.unusedSimpArgs false
set_option maxRecDepth 100000
set_option maxHeartbeats 2000000
noncomputable section
def laws_FnSends_res (r : Bool) : AV := .sv (.bool r)
def laws_FnSends_obs (r : Bool) : Objs := []
theorem laws_FnSends_ac {p0 : (List Int)} {r : Bool} (h : laws_FnSends p0 = some r) : AC Try.prog 6 [.sv (.ints .u8 p0)] [] (laws_FnSends_res r) (laws_FnSends_obs r) := by
 refine ac_of_body hT Try.func6 rfl fun C hC => ?_
 unfold laws_FnSends at h
 refine s_reg ?_
 refine v_op hT hC rfl rfl rfl rfl trivial ?_
 refine Vc.nil ?_
 refine s_in ?_
 refine s_reg ?_
 refine v_op hT hC rfl rfl rfl rfl trivial ?_
 obtain ⟨q1, hq, h⟩ := bnd_some h
 refine v_call hC [] rfl rfl rfl rfl Try.call8 (laws_big_ac hq) rfl (by decide) trivial rfl (.inl rfl) rfl ?_
 refine Vc.nil ?_
 rcases sel_some h with ⟨hb1, h⟩ | ⟨hb1, h⟩
 ·
  refine s_true rfl hb1 ?_
  refine s_reg ?_
  refine v_op hT hC rfl rfl rfl rfl trivial ?_
  refine Vc.nil ?_
  refine aw_ret ?_
  refine t_ret ?_
  injection h with h
  subst h
  exact ends (Weak.refl _) rfl trivial
 ·
  refine s_false rfl hb1 ?_
  refine aw_skip ?_
  refine t_norm ?_
  refine s_reg ?_
  refine v_op hT hC rfl rfl rfl rfl trivial ?_
  obtain ⟨q2, hq, h⟩ := bnd_some h
  refine v_call hC [] rfl rfl rfl rfl Try.call9 (spec_DrawPics_ac hq) rfl (by decide) trivial rfl (.inl rfl) rfl ?_
  iterate 7 refine v_op hT hC rfl rfl rfl rfl trivial ?_
  refine Vc.nil ?_
  refine s_reg ?_
  refine v_op hT hC rfl rfl rfl rfl trivial ?_
  obtain ⟨q3, hq, h⟩ := bnd_some h
  refine v_call hC [] rfl rfl rfl rfl Try.call10 (spec_DrawCond_ac hq) rfl (by decide) trivial rfl (.inl rfl) rfl ?_
  iterate 2 refine v_op hT hC rfl rfl rfl rfl trivial ?_
  refine Vc.nil ?_
  refine s_reg ?_
  refine v_op hT hC rfl rfl rfl rfl trivial ?_
  obtain ⟨q4, hq, h⟩ := bnd_some h
  refine v_call hC [(16, 464)] rfl rfl rfl rfl Try.call11 (spec_DrawPlaces_ac hq) rfl (by decide) trivial rfl (.inl rfl) rfl ?_
  refine v_op hT hC rfl rfl rfl rfl trivial ?_
  refine Vc.nil ?_
  refine s_draw hm ?_
  iterate 4 refine v_op hT hC rfl rfl rfl rfl trivial ?_
  obtain ⟨hq, h⟩ := req_some h
  refine v_op hT hC rfl rfl rfl rfl hq ?_
  obtain ⟨hq, h⟩ := req_some h
  refine v_op hT hC rfl rfl rfl rfl hq ?_
  obtain ⟨hq, h⟩ := req_some h
  refine v_op hT hC rfl rfl rfl rfl hq ?_
  obtain ⟨q5, hq, h⟩ := bnd_some h
  refine v_call hC [(16, 608)] rfl rfl rfl rfl Try.call17 (impl_TileFor_ac hq) rfl (by decide) trivial rfl (.inl rfl) rfl ?_
  iterate 8 refine v_op hT hC rfl rfl rfl rfl trivial ?_
  refine Vc.nil ⟨by kernel_rfl, ?_⟩
  refine s_reg ?_
  iterate 2 refine v_op hT hC rfl rfl rfl rfl trivial ?_
  obtain ⟨q6, hq, h⟩ := bnd_some h
  refine v_call hC [] rfl rfl rfl rfl Try.call28 (impl_TileRow_ac hq) rfl (by decide) trivial rfl (.inr ⟨rfl, trivial⟩) rfl ?_
  iterate 5 refine v_op hT hC rfl rfl rfl rfl trivial ?_
  refine Vc.nil ?_
  refine s_reg ?_
  iterate 7 refine v_op hT hC rfl rfl rfl rfl trivial ?_
  refine Vc.nil ?_
  refine s_reg ?_
  iterate 3 refine v_op hT hC rfl rfl rfl rfl trivial ?_
  obtain ⟨hq, h⟩ := req_some h
  refine v_op hT hC rfl rfl rfl rfl hq ?_
  iterate 2 refine v_op hT hC rfl rfl rfl rfl trivial ?_
  obtain ⟨hq, h⟩ := req_some h
  refine v_op hT hC rfl rfl rfl rfl hq ?_
  iterate 2 refine v_op hT hC rfl rfl rfl rfl trivial ?_
  obtain ⟨q7, hq, h⟩ := bnd_some h
  refine v_call hC [(16, 1008)] rfl rfl rfl rfl Try.call29 (impl_ReadTile_ac hq) rfl (by decide) trivial rfl (.inl rfl) rfl ?_
  iterate 5 refine v_op hT hC rfl rfl rfl rfl trivial ?_
  refine Vc.nil ?_
  refine s_reg ?_
  iterate 4 refine v_op hT hC rfl rfl rfl rfl trivial ?_
  obtain ⟨q8, hq, h⟩ := bnd_some h
  refine v_call hC [] rfl rfl rfl rfl Try.call30 (impl_TileBack_ac hq) rfl (by decide) trivial rfl (.inr ⟨rfl, trivial⟩) rfl ?_
  iterate 6 refine v_op hT hC rfl rfl rfl rfl trivial ?_
  refine Vc.nil ?_
  refine s_in ?_
  refine live [3, 5, 8, 9, 11, 14, 15, 16] [48, 80, 128, 240] (s' := [_, _, _, _, _, _, _, _]) (o' := [_, _, _, _]) rfl rfl ?_
  obtain ⟨v9, h1, h⟩ := bnd_some h
  refine aw_to ([(115, .sv (.bool v9)), (9, .any), (11, .any), (14, .any), (15, .any), (16, .any)], [(240, none)]) ?_ ?_
  ·
   have h := h1
   refine aw_region ?_
   iterate 3 refine v_op hT hC rfl rfl rfl rfl trivial ?_
   rcases sel_some h with ⟨hb2, h⟩ | ⟨hb2, h⟩
   ·
    iterate 2 refine v_on hT hC rfl rfl rfl rfl (congrArg Bool.not hb2) rfl rfl rfl trivial ?_
    refine v_pick hC rfl rfl rfl (b := false) (congrArg Bool.not hb2) rfl rfl rfl trivial ?_
    refine v_op hT hC rfl rfl rfl rfl trivial ?_
    rcases sel_some h with ⟨hb3, h⟩ | ⟨hb3, h⟩
    ·
     iterate 2 refine v_on hT hC rfl rfl rfl rfl (congrArg Bool.not hb3) rfl rfl rfl trivial ?_
     refine v_pick hC rfl rfl rfl (b := false) (congrArg Bool.not hb3) rfl rfl rfl trivial ?_
     refine v_op hT hC rfl rfl rfl rfl trivial ?_
     rcases sel_some h with ⟨hb4, h⟩ | ⟨hb4, h⟩
     ·
      iterate 2 refine v_on hT hC rfl rfl rfl rfl (congrArg Bool.not hb4) rfl rfl rfl trivial ?_
      refine v_pick hC rfl rfl rfl (b := false) (congrArg Bool.not hb4) rfl rfl rfl trivial ?_
      refine v_op hT hC rfl rfl rfl rfl trivial ?_
      rcases sel_some h with ⟨hb5, h⟩ | ⟨hb5, h⟩
      ·
       iterate 2 refine v_on hT hC rfl rfl rfl rfl (congrArg Bool.not hb5) rfl rfl rfl trivial ?_
       refine v_eq_on hC rfl rfl rfl rfl (congrArg Bool.not hb5) rfl rfl rfl eq_t25 rfl rfl ?_
       refine v_pick hC rfl rfl rfl (b := false) (congrArg Bool.not hb5) rfl rfl rfl trivial ?_
       refine v_op hT hC rfl rfl rfl rfl trivial ?_
       rcases sel_some h with ⟨hb6, h⟩ | ⟨hb6, h⟩
       ·
        refine v_off hC rfl rfl rfl rfl hb6 rfl rfl ?_
        refine v_off hC rfl rfl rfl rfl hb6 rfl rfl ?_
        refine v_off hC rfl rfl rfl rfl hb6 rfl rfl ?_
        refine v_off hC rfl rfl rfl rfl hb6 rfl rfl ?_
        refine v_off hC rfl rfl rfl rfl hb6 rfl rfl ?_
        refine v_pick hC rfl rfl rfl (b := true) hb6 rfl rfl rfl trivial ?_
        refine v_op hT hC rfl rfl rfl rfl trivial ?_
        refine v_off hC rfl rfl rfl rfl rfl rfl rfl ?_
        refine v_off hC rfl rfl rfl rfl rfl rfl rfl ?_
        refine v_off hC rfl rfl rfl rfl rfl rfl rfl ?_
        refine v_off hC rfl rfl rfl rfl rfl rfl rfl ?_
        refine v_off hC rfl rfl rfl rfl rfl rfl rfl ?_
        iterate 2 refine v_op hT hC rfl rfl rfl rfl trivial ?_
        refine v_off hC rfl rfl rfl rfl rfl rfl rfl ?_
        refine v_off hC rfl rfl rfl rfl rfl rfl rfl ?_
        refine v_off hC rfl rfl rfl rfl rfl rfl rfl ?_
        refine v_off hC rfl rfl rfl rfl rfl rfl rfl ?_
        refine v_off hC rfl rfl rfl rfl rfl rfl rfl ?_
        refine v_off hC rfl rfl rfl rfl rfl rfl rfl ?_
        refine v_off hC rfl rfl rfl rfl rfl rfl rfl ?_
        refine v_op hT hC rfl rfl rfl rfl trivial ?_
        refine Vc.nil ?_
        injection h with h
        subst h
        refine m_norm ?_
        apply w_conv hC []
        ·
         exact co
        ·
         rfl
        ·
         decide
        ·
         rfl
       ·
        iterate 5 refine v_on hT hC rfl rfl rfl rfl hb6 rfl rfl rfl trivial ?_
        refine v_pick hC rfl rfl rfl (b := false) hb6 rfl rfl rfl trivial ?_
        refine v_op hT hC rfl rfl rfl rfl trivial ?_
        rcases sel_some h with ⟨hb7, h⟩ | ⟨hb7, h⟩
        ·
         refine v_off hC rfl rfl rfl rfl hb7 rfl rfl ?_
         refine v_off hC rfl rfl rfl rfl hb7 rfl rfl ?_
         refine v_off hC rfl rfl rfl rfl hb7 rfl rfl ?_
         refine v_off hC rfl rfl rfl rfl hb7 rfl rfl ?_
         refine v_off hC rfl rfl rfl rfl hb7 rfl rfl ?_
         refine v_pick hC rfl rfl rfl (b := true) hb7 rfl rfl rfl trivial ?_
         refine v_op hT hC rfl rfl rfl rfl trivial ?_
         refine v_off hC rfl rfl rfl rfl rfl rfl rfl ?_
         refine v_off hC rfl rfl rfl rfl rfl rfl rfl ?_
         refine v_off hC rfl rfl rfl rfl rfl rfl rfl ?_
         refine v_off hC rfl rfl rfl rfl rfl rfl rfl ?_
         refine v_off hC rfl rfl rfl rfl rfl rfl rfl ?_
         refine v_off hC rfl rfl rfl rfl rfl rfl rfl ?_
         refine v_off hC rfl rfl rfl rfl rfl rfl rfl ?_
         refine v_op hT hC rfl rfl rfl rfl trivial ?_
         refine Vc.nil ?_
         injection h with h
         subst h
         refine m_norm ?_
         apply w_conv hC []
         ·
          exact co
         ·
          rfl
         ·
          decide
         ·
          rfl
        ·
         iterate 5 refine v_on hT hC rfl rfl rfl rfl hb7 rfl rfl rfl trivial ?_
         refine v_pick hC rfl rfl rfl (b := false) hb7 rfl rfl rfl trivial ?_
         refine v_op hT hC rfl rfl rfl rfl trivial ?_
         rcases sel_some h with ⟨hb8, h⟩ | ⟨hb8, h⟩
         ·
          refine v_off hC rfl rfl rfl rfl hb8 rfl rfl ?_
          refine v_off hC rfl rfl rfl rfl hb8 rfl rfl ?_
          refine v_off hC rfl rfl rfl rfl hb8 rfl rfl ?_
          refine v_off hC rfl rfl rfl rfl hb8 rfl rfl ?_
          refine v_off hC rfl rfl rfl rfl hb8 rfl rfl ?_
          refine v_off hC rfl rfl rfl rfl hb8 rfl rfl ?_
          refine v_off hC rfl rfl rfl rfl hb8 rfl rfl ?_
          refine v_pick hC rfl rfl rfl (b := true) hb8 rfl rfl rfl trivial ?_
          refine Vc.nil ?_
          injection h with h
          subst h
          refine m_norm ?_
          apply w_conv hC []
          ·
           exact co
          ·
           rfl
          ·
           decide
          ·
           rfl
         ·
          iterate 7 refine v_on hT hC rfl rfl rfl rfl hb8 rfl rfl rfl trivial ?_
          refine v_pick hC rfl rfl rfl (b := false) hb8 rfl rfl rfl trivial ?_
          refine Vc.nil ?_
          injection h with h
          subst h
          refine m_norm ?_
          apply w_conv hC []
          ·
           exact co
          ·
           rfl
          ·
           decide
          ·
           rfl
      ·
       refine v_off hC rfl rfl rfl rfl (congrArg Bool.not hb5) rfl rfl ?_
       refine v_off hC rfl rfl rfl rfl (congrArg Bool.not hb5) rfl rfl ?_
       refine v_off hC rfl rfl rfl rfl (congrArg Bool.not hb5) rfl rfl ?_
       refine v_pick hC rfl rfl rfl (b := true) (congrArg Bool.not hb5) rfl rfl rfl trivial ?_
       refine v_op hT hC rfl rfl rfl rfl trivial ?_
       refine v_off hC rfl rfl rfl rfl rfl rfl rfl ?_
       refine v_off hC rfl rfl rfl rfl rfl rfl rfl ?_
       refine v_off hC rfl rfl rfl rfl rfl rfl rfl ?_
       refine v_off hC rfl rfl rfl rfl rfl rfl rfl ?_
       refine v_off hC rfl rfl rfl rfl rfl rfl rfl ?_
       iterate 2 refine v_op hT hC rfl rfl rfl rfl trivial ?_
       refine v_off hC rfl rfl rfl rfl rfl rfl rfl ?_
       refine v_off hC rfl rfl rfl rfl rfl rfl rfl ?_
       refine v_off hC rfl rfl rfl rfl rfl rfl rfl ?_
       refine v_off hC rfl rfl rfl rfl rfl rfl rfl ?_
       refine v_off hC rfl rfl rfl rfl rfl rfl rfl ?_
       iterate 2 refine v_op hT hC rfl rfl rfl rfl trivial ?_
       refine v_off hC rfl rfl rfl rfl rfl rfl rfl ?_
       refine v_off hC rfl rfl rfl rfl rfl rfl rfl ?_
       refine v_off hC rfl rfl rfl rfl rfl rfl rfl ?_
       refine v_off hC rfl rfl rfl rfl rfl rfl rfl ?_
       refine v_off hC rfl rfl rfl rfl rfl rfl rfl ?_
       refine v_off hC rfl rfl rfl rfl rfl rfl rfl ?_
       refine v_off hC rfl rfl rfl rfl rfl rfl rfl ?_
       refine v_op hT hC rfl rfl rfl rfl trivial ?_
       refine Vc.nil ?_
       injection h with h
       subst h
       refine m_norm ?_
       apply w_conv hC []
       ·
        exact co
       ·
        rfl
       ·
        decide
       ·
        rfl
     ·
      refine v_off hC rfl rfl rfl rfl (congrArg Bool.not hb4) rfl rfl ?_
      refine v_off hC rfl rfl rfl rfl (congrArg Bool.not hb4) rfl rfl ?_
      refine v_pick hC rfl rfl rfl (b := true) (congrArg Bool.not hb4) rfl rfl rfl trivial ?_
      refine v_op hT hC rfl rfl rfl rfl trivial ?_
      refine v_off hC rfl rfl rfl rfl rfl rfl rfl ?_
      refine v_off hC rfl rfl rfl rfl rfl rfl rfl ?_
      refine v_off hC rfl rfl rfl rfl rfl rfl rfl ?_
      iterate 2 refine v_op hT hC rfl rfl rfl rfl trivial ?_
      refine v_off hC rfl rfl rfl rfl rfl rfl rfl ?_
      refine v_off hC rfl rfl rfl rfl rfl rfl rfl ?_
      refine v_off hC rfl rfl rfl rfl rfl rfl rfl ?_
      refine v_off hC rfl rfl rfl rfl rfl rfl rfl ?_
      refine v_off hC rfl rfl rfl rfl rfl rfl rfl ?_
      iterate 2 refine v_op hT hC rfl rfl rfl rfl trivial ?_
      refine v_off hC rfl rfl rfl rfl rfl rfl rfl ?_
      refine v_off hC rfl rfl rfl rfl rfl rfl rfl ?_
      refine v_off hC rfl rfl rfl rfl rfl rfl rfl ?_
      refine v_off hC rfl rfl rfl rfl rfl rfl rfl ?_
      refine v_off hC rfl rfl rfl rfl rfl rfl rfl ?_
      iterate 2 refine v_op hT hC rfl rfl rfl rfl trivial ?_
      refine v_off hC rfl rfl rfl rfl rfl rfl rfl ?_
      refine v_off hC rfl rfl rfl rfl rfl rfl rfl ?_
      refine v_off hC rfl rfl rfl rfl rfl rfl rfl ?_
      refine v_off hC rfl rfl rfl rfl rfl rfl rfl ?_
      refine v_off hC rfl rfl rfl rfl rfl rfl rfl ?_
      refine v_off hC rfl rfl rfl rfl rfl rfl rfl ?_
      refine v_off hC rfl rfl rfl rfl rfl rfl rfl ?_
      refine v_op hT hC rfl rfl rfl rfl trivial ?_
      refine Vc.nil ?_
      injection h with h
      subst h
      refine m_norm ?_
      apply w_conv hC []
      ·
       exact co
      ·
       rfl
      ·
       decide
      ·
       rfl
    ·
     refine v_off hC rfl rfl rfl rfl (congrArg Bool.not hb3) rfl rfl ?_
     refine v_off hC rfl rfl rfl rfl (congrArg Bool.not hb3) rfl rfl ?_
     refine v_pick hC rfl rfl rfl (b := true) (congrArg Bool.not hb3) rfl rfl rfl trivial ?_
     refine v_op hT hC rfl rfl rfl rfl trivial ?_
     refine v_off hC rfl rfl rfl rfl rfl rfl rfl ?_
     refine v_off hC rfl rfl rfl rfl rfl rfl rfl ?_
     iterate 2 refine v_op hT hC rfl rfl rfl rfl trivial ?_
     refine v_off hC rfl rfl rfl rfl rfl rfl rfl ?_
     refine v_off hC rfl rfl rfl rfl rfl rfl rfl ?_
     refine v_off hC rfl rfl rfl rfl rfl rfl rfl ?_
     iterate 2 refine v_op hT hC rfl rfl rfl rfl trivial ?_
     refine v_off hC rfl rfl rfl rfl rfl rfl rfl ?_
     refine v_off hC rfl rfl rfl rfl rfl rfl rfl ?_
     refine v_off hC rfl rfl rfl rfl rfl rfl rfl ?_
     refine v_off hC rfl rfl rfl rfl rfl rfl rfl ?_
     refine v_off hC rfl rfl rfl rfl rfl rfl rfl ?_
     iterate 2 refine v_op hT hC rfl rfl rfl rfl trivial ?_
     refine v_off hC rfl rfl rfl rfl rfl rfl rfl ?_
     refine v_off hC rfl rfl rfl rfl rfl rfl rfl ?_
     refine v_off hC rfl rfl rfl rfl rfl rfl rfl ?_
     refine v_off hC rfl rfl rfl rfl rfl rfl rfl ?_
     refine v_off hC rfl rfl rfl rfl rfl rfl rfl ?_
     iterate 2 refine v_op hT hC rfl rfl rfl rfl trivial ?_
     refine v_off hC rfl rfl rfl rfl rfl rfl rfl ?_
     refine v_off hC rfl rfl rfl rfl rfl rfl rfl ?_
     refine v_off hC rfl rfl rfl rfl rfl rfl rfl ?_
     refine v_off hC rfl rfl rfl rfl rfl rfl rfl ?_
     refine v_off hC rfl rfl rfl rfl rfl rfl rfl ?_
     refine v_off hC rfl rfl rfl rfl rfl rfl rfl ?_
     refine v_off hC rfl rfl rfl rfl rfl rfl rfl ?_
     refine v_op hT hC rfl rfl rfl rfl trivial ?_
     refine Vc.nil ?_
     injection h with h
     subst h
     refine m_norm ?_
     apply w_conv hC []
     ·
      exact co
     ·
      rfl
     ·
      decide
     ·
      rfl
   ·
    refine v_off hC rfl rfl rfl rfl (congrArg Bool.not hb2) rfl rfl ?_
    refine v_off hC rfl rfl rfl rfl (congrArg Bool.not hb2) rfl rfl ?_
    refine v_pick hC rfl rfl rfl (b := true) (congrArg Bool.not hb2) rfl rfl rfl trivial ?_
    refine v_op hT hC rfl rfl rfl rfl trivial ?_
    refine v_off hC rfl rfl rfl rfl rfl rfl rfl ?_
    refine v_off hC rfl rfl rfl rfl rfl rfl rfl ?_
    iterate 2 refine v_op hT hC rfl rfl rfl rfl trivial ?_
    refine v_off hC rfl rfl rfl rfl rfl rfl rfl ?_
    refine v_off hC rfl rfl rfl rfl rfl rfl rfl ?_
    iterate 2 refine v_op hT hC rfl rfl rfl rfl trivial ?_
    refine v_off hC rfl rfl rfl rfl rfl rfl rfl ?_
    refine v_off hC rfl rfl rfl rfl rfl rfl rfl ?_
    refine v_off hC rfl rfl rfl rfl rfl rfl rfl ?_
    iterate 2 refine v_op hT hC rfl rfl rfl rfl trivial ?_
    refine v_off hC rfl rfl rfl rfl rfl rfl rfl ?_
    refine v_off hC rfl rfl rfl rfl rfl rfl rfl ?_
    refine v_off hC rfl rfl rfl rfl rfl rfl rfl ?_
    refine v_off hC rfl rfl rfl rfl rfl rfl rfl ?_
    refine v_off hC rfl rfl rfl rfl rfl rfl rfl ?_
    iterate 2 refine v_op hT hC rfl rfl rfl rfl trivial ?_
    refine v_off hC rfl rfl rfl rfl rfl rfl rfl ?_
    refine v_off hC rfl rfl rfl rfl rfl rfl rfl ?_
    refine v_off hC rfl rfl rfl rfl rfl rfl rfl ?_
    refine v_off hC rfl rfl rfl rfl rfl rfl rfl ?_
    refine v_off hC rfl rfl rfl rfl rfl rfl rfl ?_
    iterate 2 refine v_op hT hC rfl rfl rfl rfl trivial ?_
    refine v_off hC rfl rfl rfl rfl rfl rfl rfl ?_
    refine v_off hC rfl rfl rfl rfl rfl rfl rfl ?_
    refine v_off hC rfl rfl rfl rfl rfl rfl rfl ?_
    refine v_off hC rfl rfl rfl rfl rfl rfl rfl ?_
    refine v_off hC rfl rfl rfl rfl rfl rfl rfl ?_
    refine v_off hC rfl rfl rfl rfl rfl rfl rfl ?_
    refine v_off hC rfl rfl rfl rfl rfl rfl rfl ?_
    refine v_op hT hC rfl rfl rfl rfl trivial ?_
    refine Vc.nil ?_
    injection h with h
    subst h
    refine m_norm ?_
    apply w_conv hC []
    ·
     exact co
    ·
     rfl
    ·
     decide
    ·
     rfl
  rcases sel_some h with ⟨hb9, h⟩ | ⟨hb9, h⟩
  ·
   refine s_true rfl hb9 ?_
   refine s_reg ?_
   refine v_op hT hC rfl rfl rfl rfl trivial ?_
   refine Vc.nil ?_
   refine aw_ret ?_
   refine t_ret ?_
   injection h with h
   subst h
   exact ends (Weak.refl _) rfl trivial
  ·
   refine s_false rfl hb9 ?_
   refine aw_skip ?_
   refine t_norm ?_
   refine s_in ?_
   refine s_reg ?_
   iterate 2 refine v_op hT hC rfl rfl rfl rfl trivial ?_
   refine Vc.nil ?_
   rcases sel_some h with ⟨hb10, h⟩ | ⟨hb10, h⟩
   ·
    refine s_true rfl hb10 ?_
    refine s_reg ?_
    iterate 2 refine v_op hT hC rfl rfl rfl rfl trivial ?_
    refine v_eq hC rfl rfl rfl rfl eq_t25 rfl rfl ?_
    refine v_op hT hC rfl rfl rfl rfl trivial ?_
    refine Vc.nil ?_
    refine aw_ret ?_
    refine t_ret ?_
    injection h with h
    subst h
    exact ends (Weak.refl _) rfl trivial
   ·
    refine s_false rfl hb10 ?_
    refine aw_skip ?_
    refine t_norm ?_
    refine s_in ?_
    refine s_reg ?_
    refine v_op hT hC rfl rfl rfl rfl trivial ?_
    refine Vc.nil ?_
    refine live [3, 5, 8, 17] [48, 80, 128] (s' := [_, _, _, _]) (o' := [_, _, _]) rfl rfl ?_
    obtain ⟨o23, hl, h⟩ := bnd_some h
    refine s_loopR (fun v14 => ([(17, .sv (.int .i64 v14))], [])) (fun v19 => ([(3, .any), (5, .any), (8, .any), (17, .any)], [(48, none), (80, none), (128, none)])) (fun r => EndsA C T Try.f6.results.toList (laws_FnSends_res r) (laws_FnSends_obs r)) hl ?_ ?_ ?_ ?_
    ·
     apply w_conv hC []
     ·
      exact co
     ·
      rfl
     ·
      decide
     ·
      rfl
    ·
     intro v14 s hs
     have h := hs
     unfold laws_FnSends_l2 at h
     refine s_in ?_
     refine live [3, 5, 8, 17] [48, 80, 128] (s' := [_, _, _, _]) (o' := [_, _, _]) rfl rfl ?_
     obtain ⟨v20, h1, h⟩ := bnd_some h
     refine aw_to ([(129, .sv (.bool v20))], []) ?_ ?_
     ·
      have h := h1
      refine aw_region ?_
      iterate 6 refine v_op hT hC rfl rfl rfl rfl trivial ?_
      rcases sel_some h with ⟨hb19, h⟩ | ⟨hb19, h⟩
      ·
       iterate 2 refine v_on hT hC rfl rfl rfl rfl hb19 rfl rfl rfl trivial ?_
       refine v_pick hC rfl rfl rfl (b := true) hb19 rfl rfl rfl trivial ?_
       refine Vc.nil ?_
       injection h with h
       subst h
       refine m_norm ?_
       apply w_conv hC []
       ·
        exact co
       ·
        rfl
       ·
        decide
       ·
        rfl
      ·
       refine v_off hC rfl rfl rfl rfl hb19 rfl rfl ?_
       refine v_off hC rfl rfl rfl rfl hb19 rfl rfl ?_
       refine v_pick hC rfl rfl rfl (b := false) hb19 rfl rfl rfl trivial ?_
       refine Vc.nil ?_
       injection h with h
       subst h
       refine m_norm ?_
       apply w_conv hC []
       ·
        exact co
       ·
        rfl
       ·
        decide
       ·
        rfl
     rcases sel_some h with ⟨hb20, h⟩ | ⟨hb20, h⟩
     ·
      refine s_true rfl hb20 ?_
      refine aw_skip ?_
      refine t_norm ?_
      refine s_in ?_
      refine s_block ?_
      refine s_draw hm ?_
      iterate 3 refine v_op hT hC rfl rfl rfl rfl trivial ?_
      obtain ⟨hq, h⟩ := req_some h
      refine v_op hT hC rfl rfl rfl rfl hq ?_
      iterate 4 refine v_op hT hC rfl rfl rfl rfl trivial ?_
      obtain ⟨hq, h⟩ := req_some h
      refine v_op hT hC rfl rfl rfl rfl hq ?_
      iterate 3 refine v_op hT hC rfl rfl rfl rfl trivial ?_
      refine Vc.nil ⟨by kernel_rfl, ?_⟩
      refine live [3, 5, 8, 17, 18] [48, 80, 128] (s' := [_, _, _, _, _]) (o' := [_, _, _]) rfl rfl ?_
      obtain ⟨v21, h1, h⟩ := bnd_some h
      refine aw_to ([(18, .sv (.int .i64 v21))], []) ?_ ?_
      ·
       have h := h1
       refine s_reg ?_
       iterate 2 refine v_op hT hC rfl rfl rfl rfl trivial ?_
       refine Vc.nil ?_
       rcases sel_some h with ⟨hb21, h⟩ | ⟨hb21, h⟩
       ·
        refine s_true rfl hb21 ?_
        refine aw_region ?_
        iterate 3 refine v_op hT hC rfl rfl rfl rfl trivial ?_
        refine Vc.nil ?_
        injection h with h
        subst h
        refine m_norm ?_
        apply w_conv hC []
        ·
         exact co
        ·
         rfl
        ·
         decide
        ·
         rfl
       ·
        refine s_false rfl hb21 ?_
        refine aw_skip ?_
        injection h with h
        subst h
        refine m_norm ?_
        apply w_conv hC []
        ·
         exact co
        ·
         rfl
        ·
         decide
        ·
         rfl
      refine s_reg ?_
      iterate 4 refine v_op hT hC rfl rfl rfl rfl trivial ?_
      obtain ⟨q22, hq, h⟩ := bnd_some h
      refine v_call hC [] rfl rfl rfl rfl Try.call31 (impl_StepOf_ac hq) rfl (by decide) trivial rfl (.inl rfl) rfl ?_
      refine v_op hT hC rfl rfl rfl rfl trivial ?_
      refine Vc.nil ?_
      rcases sel_some h with ⟨hb22, h⟩ | ⟨hb22, h⟩
      ·
       refine s_true rfl hb22 ?_
       refine s_reg ?_
       refine v_op hT hC rfl rfl rfl rfl trivial ?_
       refine Vc.nil ?_
       refine aw_ret ?_
       refine b_ret ?_
       refine t_ret ?_
       injection h with h
       subst h
       refine r_ret ?_
       refine o_ret ?_
       exact ends (Weak.refl _) rfl trivial
      ·
       refine s_false rfl hb22 ?_
       refine aw_skip ?_
       refine b_norm ?_
       refine t_norm ?_
       refine aw_region ?_
       iterate 3 refine v_op hT hC rfl rfl rfl rfl trivial ?_
       refine Vc.nil ?_
       injection h with h
       subst h
       refine r_go ?_
       apply w_conv hC []
       ·
        exact co
       ·
        rfl
       ·
        decide
       ·
        rfl
     ·
      refine s_false rfl hb20 ?_
      refine aw_exit ?_
      refine t_exit ?_
      injection h with h
      subst h
      refine r_exit ?_
      refine o_both ?_
      apply w_conv hC []
      ·
       exact co
      ·
       rfl
      ·
       decide
      ·
       rfl
    ·
     intro v19 e
     subst e
     refine t_norm ?_
     refine s_reg ?_
     refine v_op hT hC rfl rfl rfl rfl trivial ?_
     refine Vc.nil ?_
     refine aw_ret ?_
     injection h with h
     subst h
     exact ends (Weak.refl _) rfl trivial
    ·
     intro r' σ' e hE
     subst e
     injection h with h
     subst h
     refine t_ret ?_
     exact hE
end
end Go.Proofs.Ytjfkbpgdghijfaa.A
