/- Contracts of the functions that the law FnExactTileBack reaches, part 3: each comes to what its pure function tells. Written by a program of this session. Conditions: as each statement tells. -/
import Derived.Test.YtjfkbpgdghijfaaFFnExactTileBackx2
namespace Go.Proofs.Ytjfkbpgdghijfaa.A
open Go Go.Proofs Go.Proofs.YtjfkbpgdghijfaaAL Go.RowKit
set_option linter.unusedVariables false
set_option linter.unusedSimpArgs false
set_option maxRecDepth 100000
set_option maxHeartbeats 2000000
noncomputable section
def laws_FnExactTileBack_res (r : Bool) : AV := .sv (.bool r)
def laws_FnExactTileBack_obs (r : Bool) : Objs := []
theorem laws_FnExactTileBack_ac {p0 : Pic} {p1 : Rect} {p2 : Cond} {p3 : Bool} {p4 : (List Square)} {r : Bool} (h : laws_FnExactTileBack p0 p1 p2 p3 p4 = some r) : AC Try.prog 7 [.agg [.sv (.int .i64 p0.Wide), .sv (.int .i64 p0.High), .sv (.str p0.Dots)], .agg [.sv (.int .i64 p1.Left), .sv (.int .i64 p1.Top), .sv (.int .i64 p1.Wide), .sv (.int .i64 p1.High)], .agg [.sv (.bool p2.Key), .sv (.int .i64 p2.Qp), .sv (.bool p2.Large), .sv (.bool p2.Exact)], .sv (.bool p3), .sv (cSquare.sv p4)] [] (laws_FnExactTileBack_res r) (laws_FnExactTileBack_obs r) := by
 refine ac_of_body hT Try.func7 rfl fun C hC => ?_
 unfold laws_FnExactTileBack at h
 refine s_reg ?_
 iterate 4 refine v_op hT hC rfl rfl rfl rfl trivial ?_
 refine Vc.nil ?_
 refine s_reg ?_
 refine v_op hT hC rfl rfl rfl rfl trivial ?_
 refine Vc.nil ?_
 refine s_reg ?_
 iterate 2 refine v_op hT hC rfl rfl rfl rfl trivial ?_
 obtain ⟨q1, hq, h⟩ := bnd_some h
 refine v_call hC [] rfl rfl rfl rfl Try.call32 (laws_szPic_ac hq) rfl (by decide) trivial rfl (.inl rfl) rfl ?_
 refine v_op hT hC rfl rfl rfl rfl trivial ?_
 refine Vc.nil ?_
 refine s_in ?_
 refine s_reg ?_
 iterate 2 refine v_op hT hC rfl rfl rfl rfl trivial ?_
 refine Vc.nil ?_
 rcases sel_some h with ⟨hb1, h⟩ | ⟨hb1, h⟩
 ·
  refine s_true rfl hb1 ?_
  refine s_reg ?_
  refine v_op hT hC rfl rfl rfl rfl trivial ?_
  refine Vc.nil ?_
  refine aw_ret ?_
  refine t_ret ?_
  injection h with h
  subst h
  exact ends (Weak.refl _) rfl trivial
 ·
  refine s_false rfl hb1 ?_
  refine aw_skip ?_
  refine t_norm ?_
  refine s_reg ?_
  iterate 2 refine v_op hT hC rfl rfl rfl rfl trivial ?_
  obtain ⟨q2, hq, h⟩ := bnd_some h
  refine v_call hC [] rfl rfl rfl rfl Try.call33 (laws_szSquareS_ac hq) rfl (by decide) trivial rfl (.inl rfl) rfl ?_
  refine v_op hT hC rfl rfl rfl rfl trivial ?_
  refine Vc.nil ?_
  refine s_in ?_
  refine s_reg ?_
  iterate 2 refine v_op hT hC rfl rfl rfl rfl trivial ?_
  refine Vc.nil ?_
  rcases sel_some h with ⟨hb2, h⟩ | ⟨hb2, h⟩
  ·
   refine s_true rfl hb2 ?_
   refine s_reg ?_
   refine v_op hT hC rfl rfl rfl rfl trivial ?_
   refine Vc.nil ?_
   refine aw_ret ?_
   refine t_ret ?_
   injection h with h
   subst h
   exact ends (Weak.refl _) rfl trivial
  ·
   refine s_false rfl hb2 ?_
   refine aw_skip ?_
   refine t_norm ?_
   refine s_draw hm ?_
   refine v_op hT hC rfl rfl rfl rfl trivial ?_
   obtain ⟨q3, hq, h⟩ := bnd_some h
   refine v_call hC [] rfl rfl rfl rfl Try.call35 (laws_toPic_ac hq) rfl (by decide) trivial rfl (.inl rfl) rfl ?_
   refine v_op hT hC rfl rfl rfl rfl trivial ?_
   obtain ⟨q4, hq, h⟩ := bnd_some h
   refine v_call hC [] rfl rfl rfl rfl Try.call36 (laws_toRect_ac hq) rfl (by decide) trivial rfl (.inl rfl) rfl ?_
   refine v_op hT hC rfl rfl rfl rfl trivial ?_
   obtain ⟨q5, hq, h⟩ := bnd_some h
   refine v_call hC [] rfl rfl rfl rfl Try.call37 (laws_toCond_ac hq) rfl (by decide) trivial rfl (.inl rfl) rfl ?_
   iterate 2 refine v_op hT hC rfl rfl rfl rfl trivial ?_
   obtain ⟨q6, hq, h⟩ := bnd_some h
   refine v_call hC [(16, 576)] rfl rfl rfl rfl Try.call38 (laws_toSquareS_ac hq) rfl (by decide) trivial rfl (.inl rfl) rfl ?_
   obtain ⟨q7, hq, h⟩ := bnd_some h
   refine v_call hC [] rfl rfl rfl rfl Try.call34 (spec_TileBack_ac hq) rfl (by decide) trivial rfl (.inr ⟨rfl, trivial⟩) rfl ?_
   iterate 6 refine v_op hT hC rfl rfl rfl rfl trivial ?_
   refine Vc.nil ⟨by kernel_rfl, ?_⟩
   refine s_reg ?_
   refine v_op hT hC rfl rfl rfl rfl trivial ?_
   obtain ⟨q8, hq, h⟩ := bnd_some h
   refine v_call hC [(16, 656)] rfl rfl rfl rfl Try.call38 (laws_toSquareS_ac hq) rfl (by decide) trivial rfl (.inl rfl) rfl ?_
   refine v_op hT hC rfl rfl rfl rfl trivial ?_
   refine Vc.nil ?_
   refine s_draw hm ?_
   refine v_op hT hC rfl rfl rfl rfl trivial ?_
   obtain ⟨q9, hq, h⟩ := bnd_some h
   refine v_call hC [] rfl rfl rfl rfl Try.call35 (laws_toPic_ac hq) rfl (by decide) trivial rfl (.inl rfl) rfl ?_
   refine v_op hT hC rfl rfl rfl rfl trivial ?_
   obtain ⟨q10, hq, h⟩ := bnd_some h
   refine v_call hC [] rfl rfl rfl rfl Try.call36 (laws_toRect_ac hq) rfl (by decide) trivial rfl (.inl rfl) rfl ?_
   refine v_op hT hC rfl rfl rfl rfl trivial ?_
   obtain ⟨q11, hq, h⟩ := bnd_some h
   refine v_call hC [] rfl rfl rfl rfl Try.call37 (laws_toCond_ac hq) rfl (by decide) trivial rfl (.inl rfl) rfl ?_
   iterate 2 refine v_op hT hC rfl rfl rfl rfl trivial ?_
   obtain ⟨q12, hq, h⟩ := bnd_some h
   refine v_call hC [] rfl rfl rfl rfl Try.call30 (impl_TileBack_ac hq) rfl (by decide) trivial rfl (.inr ⟨rfl, trivial⟩) rfl ?_
   iterate 6 refine v_op hT hC rfl rfl rfl rfl trivial ?_
   refine Vc.nil ⟨by kernel_rfl, ?_⟩
   refine s_in ?_
   refine live [4, 12, 13, 14, 15, 16] [192, 240, 656] (s' := [_, _, _, _, _, _]) (o' := [_, _, _]) rfl rfl ?_
   obtain ⟨v13, h1, h⟩ := bnd_some h
   refine aw_to ([(62, .sv (.bool v13)), (12, .any), (13, .any), (15, .any), (16, .any)], [(192, none), (240, none)]) ?_ ?_
   ·
    have h := h1
    refine aw_region ?_
    iterate 2 refine v_op hT hC rfl rfl rfl rfl trivial ?_
    obtain ⟨q14, hq, h⟩ := bnd_some h
    refine v_call hC [] rfl rfl rfl rfl Try.call39 (laws_eqPic_ac hq) rfl (by decide) trivial rfl (.inl rfl) rfl ?_
    iterate 2 refine v_op hT hC rfl rfl rfl rfl trivial ?_
    rcases sel_some h with ⟨hb3, h⟩ | ⟨hb3, h⟩
    ·
     iterate 3 refine v_on hT hC rfl rfl rfl rfl (congrArg Bool.not hb3) rfl rfl rfl trivial ?_
     refine v_pick hC rfl rfl rfl (b := false) (congrArg Bool.not hb3) rfl rfl rfl trivial ?_
     refine Vc.nil ?_
     injection h with h
     subst h
     refine m_norm ?_
     apply w_conv hC []
     ·
      exact co
     ·
      rfl
     ·
      decide
     ·
      rfl
    ·
     refine v_off hC rfl rfl rfl rfl (congrArg Bool.not hb3) rfl rfl ?_
     refine v_off hC rfl rfl rfl rfl (congrArg Bool.not hb3) rfl rfl ?_
     refine v_off hC rfl rfl rfl rfl (congrArg Bool.not hb3) rfl rfl ?_
     refine v_pick hC rfl rfl rfl (b := true) (congrArg Bool.not hb3) rfl rfl rfl trivial ?_
     refine Vc.nil ?_
     injection h with h
     subst h
     refine m_norm ?_
     apply w_conv hC []
     ·
      exact co
     ·
      rfl
     ·
      decide
     ·
      rfl
   rcases sel_some h with ⟨hb4, h⟩ | ⟨hb4, h⟩
   ·
    refine s_true rfl hb4 ?_
    refine s_reg ?_
    refine v_op hT hC rfl rfl rfl rfl trivial ?_
    refine Vc.nil ?_
    refine aw_ret ?_
    refine t_ret ?_
    injection h with h
    subst h
    exact ends (Weak.refl _) rfl trivial
   ·
    refine s_false rfl hb4 ?_
    refine aw_skip ?_
    refine t_norm ?_
    refine s_in ?_
    refine s_reg ?_
    iterate 2 refine v_op hT hC rfl rfl rfl rfl trivial ?_
    obtain ⟨q15, hq, h⟩ := bnd_some h
    refine v_call hC [(16, 1040)] rfl rfl rfl rfl Try.call38 (laws_toSquareS_ac hq) rfl (by decide) trivial rfl (.inl rfl) rfl ?_
    obtain ⟨q16, hq, h⟩ := bnd_some h
    refine v_call hC [] rfl rfl rfl rfl Try.call40 (laws_eqSquareS_ac hq) rfl (by decide) trivial rfl (.inr ⟨rfl, trivial⟩) rfl ?_
    refine v_op hT hC rfl rfl rfl rfl trivial ?_
    refine Vc.nil ?_
    rcases sel_some h with ⟨hb5, h⟩ | ⟨hb5, h⟩
    ·
     refine s_true rfl hb5 ?_
     refine s_reg ?_
     refine v_op hT hC rfl rfl rfl rfl trivial ?_
     refine Vc.nil ?_
     refine aw_ret ?_
     refine t_ret ?_
     injection h with h
     subst h
     exact ends (Weak.refl _) rfl trivial
    ·
     refine s_false rfl hb5 ?_
     refine aw_skip ?_
     refine t_norm ?_
     refine s_reg ?_
     refine v_op hT hC rfl rfl rfl rfl trivial ?_
     refine Vc.nil ?_
     refine aw_ret ?_
     injection h with h
     subst h
     exact ends (Weak.refl _) rfl trivial
end
end Go.Proofs.Ytjfkbpgdghijfaa.A
