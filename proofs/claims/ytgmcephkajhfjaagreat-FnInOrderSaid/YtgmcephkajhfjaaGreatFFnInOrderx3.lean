/- Contracts of the functions that the law FnInOrder reaches, part 3: each comes to what its pure function tells. Written by a program of this session. Conditions: as each statement tells. -/
import Derived.Test.YtgmcephkajhfjaaGreatFFnInOrderx2
namespace Go.Proofs.YtgmcephkajhfjaaGreat.A
open Go Go.Proofs Go.Proofs.YtgmcephkajhfjaaGreatAL Go.RowKit
set_option linter.unusedVariables false
set_option linter.unusedSimpArgs false
set_option maxRecDepth 100000
set_option maxHeartbeats 2000000
noncomputable section
def spec_l19Right_res (r : (Source × (List ByteArray) × L01Cur)) : AV := .tup [.agg [.sv (.int .i64 r.1.Seq.Level), .sv (.int .i64 r.1.Seq.Bits), .own 16, .own 17, .sv (.int .i64 r.1.Par.Qp), .sv (.bool r.1.Par.Large), .sv (.bool r.1.Par.Exact), .sv (.bool r.1.Par.Confined), .sv (.int .i64 r.1.Rate.Qp), .sv (.int .i64 r.1.Rate.Target), .sv (.int .i64 r.1.Rate.Debt), .sv (.int .i64 r.1.Frame), .sv (.int .i64 r.1.Since), .sv (.int .i64 r.1.Every), .sv (.int .i64 r.1.Reach), .sv (.bool r.1.Has), .sv (.int .i64 r.1.Ref.Wide), .sv (.int .i64 r.1.Ref.High), .sv (.str r.1.Ref.Dots)], .own 18]
def spec_l19Right_obs (r : (Source × (List ByteArray) × L01Cur)) : Objs := [(16, .ints .i64 r.1.Seq.Cols), (17, .ints .i64 r.1.Seq.Rows), (18, .row cByteArray r.2.1), (0, .box [.sv (.ints .u8 r.2.2.b_), .sv (.int .i64 r.2.2.i_), .sv (.int .i64 r.2.2.h_)])]
theorem spec_l19Right_ac {p0 : L01Cur} {r : (Source × (List ByteArray) × L01Cur)} (h : spec_l19Right p0 = some r) : AC Tryz.prog 33 [.ptr 0 0] [(0, .box [.sv (.ints .u8 p0.b_), .sv (.int .i64 p0.i_), .sv (.int .i64 p0.h_)])] (spec_l19Right_res r) (spec_l19Right_obs r) := by
 refine ac_of_body hT Tryz.func33 rfl fun C hC => ?_
 unfold spec_l19Right at h
 refine s_reg ?_
 iterate 2 refine v_op hT hC rfl rfl rfl rfl trivial ?_
 refine Vc.nil ?_
 refine s_reg ?_
 refine v_op hT hC rfl rfl rfl rfl trivial ?_
 obtain ⟨q1, hq, h⟩ := bnd_some h
 refine v_call hC [(0, 0)] rfl rfl rfl rfl Tryz.call22 (spec_l01Below_ac hq) rfl (by decide) ⟨rfl, trivial⟩ rfl (.inl rfl) rfl ?_
 iterate 2 refine v_op hT hC rfl rfl rfl rfl trivial ?_
 obtain ⟨q2, hq, h⟩ := bnd_some h
 refine v_call hC [(0, 0)] rfl rfl rfl rfl Tryz.call22 (spec_l01Below_ac hq) rfl (by decide) ⟨rfl, trivial⟩ rfl (.inl rfl) rfl ?_
 iterate 2 refine v_op hT hC rfl rfl rfl rfl trivial ?_
 obtain ⟨q3, hq, h⟩ := bnd_some h
 refine v_call hC [(0, 0)] rfl rfl rfl rfl Tryz.call22 (spec_l01Below_ac hq) rfl (by decide) ⟨rfl, trivial⟩ rfl (.inl rfl) rfl ?_
 iterate 2 refine v_op hT hC rfl rfl rfl rfl trivial ?_
 obtain ⟨q4, hq, h⟩ := bnd_some h
 refine v_call hC [(0, 0)] rfl rfl rfl rfl Tryz.call42 (spec_l05ParRight_ac hq) rfl (by decide) ⟨rfl, trivial⟩ rfl (.inl rfl) rfl ?_
 refine v_op hT hC rfl rfl rfl rfl trivial ?_
 obtain ⟨q5, hq, h⟩ := bnd_some h
 refine v_call hC [(0, 0)] rfl rfl rfl rfl Tryz.call43 (spec_l18Right_ac hq) rfl (by decide) ⟨rfl, trivial⟩ rfl (.inl rfl) rfl ?_
 refine v_op hT hC rfl rfl rfl rfl trivial ?_
 obtain ⟨q6, hq, h⟩ := bnd_some h
 refine v_call hC [(0, 0)] rfl rfl rfl rfl Tryz.call22 (spec_l01Below_ac hq) rfl (by decide) ⟨rfl, trivial⟩ rfl (.inl rfl) rfl ?_
 iterate 2 refine v_op hT hC rfl rfl rfl rfl trivial ?_
 obtain ⟨q7, hq, h⟩ := bnd_some h
 refine v_call hC [(0, 0)] rfl rfl rfl rfl Tryz.call22 (spec_l01Below_ac hq) rfl (by decide) ⟨rfl, trivial⟩ rfl (.inl rfl) rfl ?_
 obtain ⟨q8, hq, h⟩ := bnd_some h
 refine v_call hC [(16, 528), (17, 529)] rfl rfl rfl rfl Tryz.call41 (spec_SourceNew_ac hq) rfl (by decide) trivial rfl (.inl rfl) rfl ?_
 iterate 6 refine v_op hT hC rfl rfl rfl rfl trivial ?_
 refine Vc.nil ?_
 refine s_reg ?_
 iterate 2 refine v_op hT hC rfl rfl rfl rfl trivial ?_
 refine Vc.nil ?_
 refine s_reg ?_
 iterate 2 refine v_op hT hC rfl rfl rfl rfl trivial ?_
 obtain ⟨q9, hq, h⟩ := bnd_some h
 refine v_call hC [] rfl rfl rfl rfl Tryz.call44 (spec_SizeOf_ac hq) rfl (by decide) trivial rfl (.inr ⟨rfl, trivial⟩) rfl ?_
 iterate 5 refine v_op hT hC rfl rfl rfl rfl trivial ?_
 refine Vc.nil ?_
 refine s_reg ?_
 iterate 3 refine v_op hT hC rfl rfl rfl rfl trivial ?_
 obtain ⟨q10, hq, h⟩ := bnd_some h
 refine v_call hC [(0, 0)] rfl rfl rfl rfl Tryz.call45 (spec_l12Sized_ac hq) rfl (by decide) ⟨rfl, trivial⟩ rfl (.inl rfl) rfl ?_
 iterate 2 refine v_op hT hC rfl rfl rfl rfl trivial ?_
 refine Vc.nil ?_
 refine s_in ?_
 refine s_reg ?_
 refine v_op hT hC rfl rfl rfl rfl trivial ?_
 refine Vc.nil ?_
 refine live [0, 2, 4, 6, 9, 10] [0, 32, 64, 144, 528, 529, 576] (s' := [_, _, _, _, _, _]) (o' := [_, _, _, _, _, _, _]) rfl rfl ?_
 obtain ⟨v22, hl, h⟩ := bnd_some h
 refine s_loop (fun v16 => ([(10, .sv (.int .i64 v16.1))], [(0, some (.box [.sv (.ints .u8 v16.2.1), .sv (.int .i64 v16.2.2.1), .sv (.int .i64 v16.2.2.2.1)])), (64, some (.box [.sv (.int .i64 v16.2.2.2.2.1), .sv (.int .i64 v16.2.2.2.2.2.1), .own 528, .own 529, .sv (.int .i64 v16.2.2.2.2.2.2.1), .sv (.bool v16.2.2.2.2.2.2.2.1), .sv (.bool v16.2.2.2.2.2.2.2.2.1), .sv (.bool v16.2.2.2.2.2.2.2.2.2.1), .sv (.int .i64 v16.2.2.2.2.2.2.2.2.2.2.1), .sv (.int .i64 v16.2.2.2.2.2.2.2.2.2.2.2.1), .sv (.int .i64 v16.2.2.2.2.2.2.2.2.2.2.2.2.1), .sv (.int .i64 v16.2.2.2.2.2.2.2.2.2.2.2.2.2.1), .sv (.int .i64 v16.2.2.2.2.2.2.2.2.2.2.2.2.2.2.1), .sv (.int .i64 v16.2.2.2.2.2.2.2.2.2.2.2.2.2.2.2.1), .sv (.int .i64 v16.2.2.2.2.2.2.2.2.2.2.2.2.2.2.2.2.1), .sv (.bool v16.2.2.2.2.2.2.2.2.2.2.2.2.2.2.2.2.2.1), .sv (.int .i64 v16.2.2.2.2.2.2.2.2.2.2.2.2.2.2.2.2.2.2.1), .sv (.int .i64 v16.2.2.2.2.2.2.2.2.2.2.2.2.2.2.2.2.2.2.2.1), .sv (.str v16.2.2.2.2.2.2.2.2.2.2.2.2.2.2.2.2.2.2.2.2.1)])), (144, some (.box [.sv (.int .i64 v16.2.2.2.2.2.2.2.2.2.2.2.2.2.2.2.2.2.2.2.2.2.2.1), .sv (.int .i64 v16.2.2.2.2.2.2.2.2.2.2.2.2.2.2.2.2.2.2.2.2.2.2.2.1), .sv (.str v16.2.2.2.2.2.2.2.2.2.2.2.2.2.2.2.2.2.2.2.2.2.2.2.2.1)])), (528, some (.ints .i64 v16.2.2.2.2.2.2.2.2.2.2.2.2.2.2.2.2.2.2.2.2.2.2.2.2.2.1)), (529, some (.ints .i64 v16.2.2.2.2.2.2.2.2.2.2.2.2.2.2.2.2.2.2.2.2.2.2.2.2.2.2)), (576, some (.row cByteArray v16.2.2.2.2.2.2.2.2.2.2.2.2.2.2.2.2.2.2.2.2.2.1))])) (fun v22 => ([(0, .any), (9, .any), (10, .any)], [(0, some (.box [.sv (.ints .u8 v22.2.2.2.2.2.2.2.2.2.2.2.2.2.2.2.2.2.2.1), .sv (.int .i64 v22.2.2.2.2.2.2.2.2.2.2.2.2.2.2.2.2.2.2.2.1), .sv (.int .i64 v22.2.2.2.2.2.2.2.2.2.2.2.2.2.2.2.2.2.2.2.2.1)])), (64, some (.box [.sv (.int .i64 v22.1), .sv (.int .i64 v22.2.1), .own 528, .own 529, .sv (.int .i64 v22.2.2.1), .sv (.bool v22.2.2.2.1), .sv (.bool v22.2.2.2.2.1), .sv (.bool v22.2.2.2.2.2.1), .sv (.int .i64 v22.2.2.2.2.2.2.1), .sv (.int .i64 v22.2.2.2.2.2.2.2.1), .sv (.int .i64 v22.2.2.2.2.2.2.2.2.1), .sv (.int .i64 v22.2.2.2.2.2.2.2.2.2.1), .sv (.int .i64 v22.2.2.2.2.2.2.2.2.2.2.1), .sv (.int .i64 v22.2.2.2.2.2.2.2.2.2.2.2.1), .sv (.int .i64 v22.2.2.2.2.2.2.2.2.2.2.2.2.1), .sv (.bool v22.2.2.2.2.2.2.2.2.2.2.2.2.2.1), .sv (.int .i64 v22.2.2.2.2.2.2.2.2.2.2.2.2.2.2.1), .sv (.int .i64 v22.2.2.2.2.2.2.2.2.2.2.2.2.2.2.2.1), .sv (.str v22.2.2.2.2.2.2.2.2.2.2.2.2.2.2.2.2.1)])), (528, some (.ints .i64 v22.2.2.2.2.2.2.2.2.2.2.2.2.2.2.2.2.2.2.2.2.2.1)), (529, some (.ints .i64 v22.2.2.2.2.2.2.2.2.2.2.2.2.2.2.2.2.2.2.2.2.2.2)), (576, some (.row cByteArray v22.2.2.2.2.2.2.2.2.2.2.2.2.2.2.2.2.2.1)), (144, none)])) hl ?_ ?_ ?_
 ·
  try dsimp only
  apply w_conv hC []
  ·
   exact co
  ·
   rfl
  ·
   decide
  ·
   rfl
 ·
  intro v16 s hs
  have h := hs
  unfold spec_l19Right_l2 at h
  refine s_in ?_
  refine s_reg ?_
  iterate 2 refine v_op hT hC rfl rfl rfl rfl trivial ?_
  obtain ⟨q23, hq, h⟩ := bnd_some h
  refine v_call hC [(0, 0)] rfl rfl rfl rfl Tryz.call22 (spec_l01Below_ac hq) rfl (by decide) ⟨rfl, trivial⟩ rfl (.inl rfl) rfl ?_
  refine v_op hT hC rfl rfl rfl rfl trivial ?_
  refine Vc.nil ?_
  rcases sel_some h with ⟨hb3, h⟩ | ⟨hb3, h⟩
  ·
   refine s_true rfl hb3 ?_
   refine aw_skip ?_
   refine t_norm ?_
   refine s_in ?_
   refine s_block ?_
   refine s_draw hm ?_
   iterate 3 refine v_op hT hC rfl rfl rfl rfl trivial ?_
   obtain ⟨q24, hq, h⟩ := bnd_some h
   refine v_call hC [(0, 0)] rfl rfl rfl rfl Tryz.call32 (spec_l01Once_ac hq) rfl (by decide) ⟨rfl, trivial⟩ rfl (.inl rfl) rfl ?_
   obtain ⟨q25, hq, h⟩ := bnd_some h
   refine v_call hC [(16, 928), (17, 929), (18, 930)] rfl rfl rfl rfl Tryz.call46 (spec_SourceStep_ac hq) rfl (by decide) trivial rfl (.inr ⟨rfl, ⟨trivial, trivial, fun _ => rfl, trivial⟩⟩) rfl ?_
   iterate 8 refine v_op hT hC rfl rfl rfl rfl trivial ?_
   refine Vc.nil ⟨by kernel_rfl, ?_⟩
   refine s_reg ?_
   iterate 2 refine v_op hT hC rfl rfl rfl rfl trivial ?_
   refine Vc.nil ?_
   refine s_reg ?_
   iterate 2 refine v_op hT hC rfl rfl rfl rfl trivial ?_
   obtain ⟨hq, h⟩ := req_some h
   refine v_op hT hC rfl rfl rfl rfl ⟨fun _ _ => rfl, by rw [cByteArray_id]; exact hq⟩ ?_
   rw [cByteArray_id]
   refine v_op hT hC rfl rfl rfl rfl trivial ?_
   refine Vc.nil ?_
   refine aw_region ?_
   iterate 2 refine v_op hT hC rfl rfl rfl rfl trivial ?_
   obtain ⟨q26, hq, h⟩ := bnd_some h
   refine v_call hC [(0, 0)] rfl rfl rfl rfl Tryz.call47 (spec_l17Near_ac hq) rfl (by decide) ⟨rfl, trivial⟩ rfl (.inl rfl) rfl ?_
   refine v_op hT hC rfl rfl rfl rfl trivial ?_
   refine Vc.nil ?_
   refine b_norm ?_
   refine t_norm ?_
   refine aw_region ?_
   iterate 3 refine v_op hT hC rfl rfl rfl rfl trivial ?_
   refine Vc.nil ?_
   injection h with h
   subst h
   refine r_go ?_
   try dsimp only
   apply w_conv hC [(528, 928), (529, 929), (576, 1040)]
   ·
    exact co
   ·
    rfl
   ·
    decide
   ·
    rfl
  ·
   refine s_false rfl hb3 ?_
   refine aw_exit ?_
   refine t_exit ?_
   injection h with h
   subst h
   refine r_exit ?_
   refine o_out ?_
   try dsimp only
   apply w_conv hC []
   ·
    exact co
   ·
    rfl
   ·
    decide
   ·
    rfl
 refine t_norm ?_
 refine s_reg ?_
 iterate 4 refine v_op hT hC rfl rfl rfl rfl trivial ?_
 refine Vc.nil ?_
 refine aw_ret ?_
 injection h with h
 subst h
 refine ends (τ := ⟨[(2, .ptr 2000000 0), (3, .own 18)], [(16, some (.ints .i64 v22.2.2.2.2.2.2.2.2.2.2.2.2.2.2.2.2.2.2.2.2.2.1)), (17, some (.ints .i64 v22.2.2.2.2.2.2.2.2.2.2.2.2.2.2.2.2.2.2.2.2.2.2)), (18, some (.row cByteArray v22.2.2.2.2.2.2.2.2.2.2.2.2.2.2.2.2.2.1)), (0, some (.box [.sv (.ints .u8 v22.2.2.2.2.2.2.2.2.2.2.2.2.2.2.2.2.2.2.1), .sv (.int .i64 v22.2.2.2.2.2.2.2.2.2.2.2.2.2.2.2.2.2.2.2.1), .sv (.int .i64 v22.2.2.2.2.2.2.2.2.2.2.2.2.2.2.2.2.2.2.2.2.1)])), (2000000, some (.box [.sv (.int .i64 v22.1), .sv (.int .i64 v22.2.1), .own 16, .own 17, .sv (.int .i64 v22.2.2.1), .sv (.bool v22.2.2.2.1), .sv (.bool v22.2.2.2.2.1), .sv (.bool v22.2.2.2.2.2.1), .sv (.int .i64 v22.2.2.2.2.2.2.1), .sv (.int .i64 v22.2.2.2.2.2.2.2.1), .sv (.int .i64 v22.2.2.2.2.2.2.2.2.1), .sv (.int .i64 v22.2.2.2.2.2.2.2.2.2.1), .sv (.int .i64 v22.2.2.2.2.2.2.2.2.2.2.1), .sv (.int .i64 v22.2.2.2.2.2.2.2.2.2.2.2.1), .sv (.int .i64 v22.2.2.2.2.2.2.2.2.2.2.2.2.1), .sv (.bool v22.2.2.2.2.2.2.2.2.2.2.2.2.2.1), .sv (.int .i64 v22.2.2.2.2.2.2.2.2.2.2.2.2.2.2.1), .sv (.int .i64 v22.2.2.2.2.2.2.2.2.2.2.2.2.2.2.2.1), .sv (.str v22.2.2.2.2.2.2.2.2.2.2.2.2.2.2.2.2.1)]))]⟩) ?_ rfl ⟨rfl, rfl, rfl, rfl, trivial⟩
 apply w_conv hC [(16, 528), (17, 529), (18, 576), (2000000, 32)]
 ·
  exact co
 ·
  rfl
 ·
  decide
 ·
  rfl
def spec_l22Seq_res (r : (Int × L01Cur)) : AV := .sv (.int .i64 r.1)
def spec_l22Seq_obs (r : (Int × L01Cur)) : Objs := [(0, .box [.sv (.ints .u8 r.2.b_), .sv (.int .i64 r.2.i_), .sv (.int .i64 r.2.h_)])]
theorem spec_l22Seq_ac {p0 : L01Cur} {r : (Int × L01Cur)} (h : spec_l22Seq p0 = some r) : AC Tryz.prog 35 [.ptr 0 0] [(0, .box [.sv (.ints .u8 p0.b_), .sv (.int .i64 p0.i_), .sv (.int .i64 p0.h_)])] (spec_l22Seq_res r) (spec_l22Seq_obs r) := by
 refine ac_of_body hT Tryz.func35 rfl fun C hC => ?_
 unfold spec_l22Seq at h
 refine s_reg ?_
 refine v_op hT hC rfl rfl rfl rfl trivial ?_
 refine Vc.nil ?_
 refine s_in ?_
 refine s_reg ?_
 refine v_op hT hC rfl rfl rfl rfl trivial ?_
 obtain ⟨q1, hq, h⟩ := bnd_some h
 refine v_call hC [(0, 0)] rfl rfl rfl rfl Tryz.call32 (spec_l01Once_ac hq) rfl (by decide) ⟨rfl, trivial⟩ rfl (.inl rfl) rfl ?_
 refine Vc.nil ?_
 rcases sel_some h with ⟨hb1, h⟩ | ⟨hb1, h⟩
 ·
  refine s_true rfl hb1 ?_
  refine s_reg ?_
  refine v_op hT hC rfl rfl rfl rfl trivial ?_
  refine v_shut hT hC rfl rfl rfl rfl trivial rfl ?_
  obtain ⟨q2, hq, h⟩ := bnd_some h
  refine v_call hC [(0, 0)] rfl rfl rfl rfl Tryz.call36 (spec_l01PickInt_ac hq) rfl (by decide) ⟨rfl, trivial⟩ rfl (.inl rfl) rfl ?_
  refine v_op hT hC rfl rfl rfl rfl trivial ?_
  refine Vc.nil ?_
  refine aw_ret ?_
  refine t_ret ?_
  injection h with h
  subst h
  exact ends (Weak.refl _) rfl ⟨rfl, trivial⟩
 ·
  refine s_false rfl hb1 ?_
  refine aw_skip ?_
  refine t_norm ?_
  refine s_reg ?_
  refine v_op hT hC rfl rfl rfl rfl trivial ?_
  obtain ⟨q3, hq, h⟩ := bnd_some h
  refine v_call hC [(0, 0)] rfl rfl rfl rfl Tryz.call22 (spec_l01Below_ac hq) rfl (by decide) ⟨rfl, trivial⟩ rfl (.inl rfl) rfl ?_
  refine v_op hT hC rfl rfl rfl rfl trivial ?_
  refine Vc.nil ?_
  refine aw_ret ?_
  injection h with h
  subst h
  exact ends (Weak.refl _) rfl ⟨rfl, trivial⟩
def spec_l04Escaped_res (r : ByteArray) : AV := .sv (.str r)
def spec_l04Escaped_obs (r : ByteArray) : Objs := []
theorem spec_l04Escaped_ac {p0 : ByteArray} {r : ByteArray} (h : spec_l04Escaped p0 = some r) : AC Tryz.prog 91 [.sv (.str p0)] [] (spec_l04Escaped_res r) (spec_l04Escaped_obs r) := by
 refine ac_of_body hT Tryz.func91 rfl fun C hC => ?_
 unfold spec_l04Escaped at h
 refine s_reg ?_
 refine v_op hT hC rfl rfl rfl rfl trivial ?_
 refine Vc.nil ?_
 refine s_reg ?_
 iterate 2 refine v_op hT hC rfl rfl rfl rfl trivial ?_
 refine Vc.nil ?_
 refine s_in ?_
 refine s_reg ?_
 refine v_op hT hC rfl rfl rfl rfl trivial ?_
 refine Vc.nil ?_
 refine live [0, 3, 4] [96] (s' := [_, _, _]) (o' := [_]) rfl rfl ?_
 obtain ⟨v8, hl, h⟩ := bnd_some h
 refine s_loop (fun v4 => ([(4, .sv (.int .i64 v4.1))], [(96, some (.ints .u8 v4.2))])) (fun v8 => ([(0, .any), (4, .any)], [(96, some (.ints .u8 v8))])) hl ?_ ?_ ?_
 ·
  try dsimp only
  apply w_conv hC []
  ·
   exact co
  ·
   rfl
  ·
   decide
  ·
   rfl
 ·
  intro v4 s hs
  have h := hs
  unfold spec_l04Escaped_l2 at h
  refine s_in ?_
  refine s_reg ?_
  iterate 4 refine v_op hT hC rfl rfl rfl rfl trivial ?_
  refine Vc.nil ?_
  rcases sel_some h with ⟨hb11, h⟩ | ⟨hb11, h⟩
  ·
   refine s_true rfl hb11 ?_
   refine aw_skip ?_
   refine t_norm ?_
   refine s_in ?_
   refine s_block ?_
   refine s_reg ?_
   iterate 3 refine v_op hT hC rfl rfl rfl rfl trivial ?_
   refine Vc.nil ?_
   refine live [0, 3, 4, 5] [96] (s' := [_, _, _, _]) (o' := [_]) rfl rfl ?_
   obtain ⟨v9, h1, h⟩ := bnd_some h
   refine aw_to ([(5, .any)], [(96, some (.ints .u8 v9))]) ?_ ?_
   ·
    have h := h1
    refine live [0, 3, 4, 5] [96] (s' := [_, _, _, _]) (o' := [_]) rfl rfl ?_
    obtain ⟨v10, h1, h⟩ := bnd_some h
    refine aw_to ([(38, .sv (.bool v10)), (5, .any)], []) ?_ ?_
    ·
     have h := h1
     refine aw_region ?_
     iterate 3 refine v_op hT hC rfl rfl rfl rfl trivial ?_
     rcases sel_some h with ⟨hb12, h⟩ | ⟨hb12, h⟩
     ·
      iterate 3 refine v_on hT hC rfl rfl rfl rfl hb12 rfl rfl rfl trivial ?_
      obtain ⟨hq, h⟩ := req_some h
      refine v_on hT hC rfl rfl rfl rfl hb12 rfl rfl rfl hq ?_
      obtain ⟨hq, h⟩ := req_some h
      refine v_on hT hC rfl rfl rfl rfl hb12 rfl rfl rfl hq ?_
      refine v_on hT hC rfl rfl rfl rfl hb12 rfl rfl rfl trivial ?_
      refine v_pick hC rfl rfl rfl (b := true) hb12 rfl rfl rfl trivial ?_
      refine v_op hT hC rfl rfl rfl rfl trivial ?_
      rcases sel_some h with ⟨hb13, h⟩ | ⟨hb13, h⟩
      ·
       iterate 3 refine v_on hT hC rfl rfl rfl rfl hb13 rfl rfl rfl trivial ?_
       obtain ⟨hq, h⟩ := req_some h
       refine v_on hT hC rfl rfl rfl rfl hb13 rfl rfl rfl hq ?_
       obtain ⟨hq, h⟩ := req_some h
       refine v_on hT hC rfl rfl rfl rfl hb13 rfl rfl rfl hq ?_
       refine v_on hT hC rfl rfl rfl rfl hb13 rfl rfl rfl trivial ?_
       refine v_pick hC rfl rfl rfl (b := true) hb13 rfl rfl rfl trivial ?_
       refine v_op hT hC rfl rfl rfl rfl trivial ?_
       rcases sel_some h with ⟨hb14, h⟩ | ⟨hb14, h⟩
       ·
        iterate 2 refine v_on hT hC rfl rfl rfl rfl hb14 rfl rfl rfl trivial ?_
        obtain ⟨hq, h⟩ := req_some h
        refine v_on hT hC rfl rfl rfl rfl hb14 rfl rfl rfl hq ?_
        refine v_on hT hC rfl rfl rfl rfl hb14 rfl rfl rfl trivial ?_
        refine v_pick hC rfl rfl rfl (b := true) hb14 rfl rfl rfl trivial ?_
        refine Vc.nil ?_
        injection h with h
        subst h
        refine m_norm ?_
        apply w_conv hC []
        ·
         exact co
        ·
         rfl
        ·
         decide
        ·
         rfl
       ·
        refine v_off hC rfl rfl rfl rfl hb14 rfl rfl ?_
        refine v_off hC rfl rfl rfl rfl hb14 rfl rfl ?_
        refine v_off hC rfl rfl rfl rfl hb14 rfl rfl ?_
        refine v_off hC rfl rfl rfl rfl hb14 rfl rfl ?_
        refine v_pick hC rfl rfl rfl (b := false) hb14 rfl rfl rfl trivial ?_
        refine Vc.nil ?_
        injection h with h
        subst h
        refine m_norm ?_
        apply w_conv hC []
        ·
         exact co
        ·
         rfl
        ·
         decide
        ·
         rfl
      ·
       refine v_off hC rfl rfl rfl rfl hb13 rfl rfl ?_
       refine v_off hC rfl rfl rfl rfl hb13 rfl rfl ?_
       refine v_off hC rfl rfl rfl rfl hb13 rfl rfl ?_
       refine v_off hC rfl rfl rfl rfl hb13 rfl rfl ?_
       refine v_off hC rfl rfl rfl rfl hb13 rfl rfl ?_
       refine v_off hC rfl rfl rfl rfl hb13 rfl rfl ?_
       refine v_pick hC rfl rfl rfl (b := false) hb13 rfl rfl rfl trivial ?_
       refine v_op hT hC rfl rfl rfl rfl trivial ?_
       refine v_off hC rfl rfl rfl rfl rfl rfl rfl ?_
       refine v_off hC rfl rfl rfl rfl rfl rfl rfl ?_
       refine v_off hC rfl rfl rfl rfl rfl rfl rfl ?_
       refine v_off hC rfl rfl rfl rfl rfl rfl rfl ?_
       refine v_op hT hC rfl rfl rfl rfl trivial ?_
       refine Vc.nil ?_
       injection h with h
       subst h
       refine m_norm ?_
       apply w_conv hC []
       ·
        exact co
       ·
        rfl
       ·
        decide
       ·
        rfl
     ·
      refine v_off hC rfl rfl rfl rfl hb12 rfl rfl ?_
      refine v_off hC rfl rfl rfl rfl hb12 rfl rfl ?_
      refine v_off hC rfl rfl rfl rfl hb12 rfl rfl ?_
      refine v_off hC rfl rfl rfl rfl hb12 rfl rfl ?_
      refine v_off hC rfl rfl rfl rfl hb12 rfl rfl ?_
      refine v_off hC rfl rfl rfl rfl hb12 rfl rfl ?_
      refine v_pick hC rfl rfl rfl (b := false) hb12 rfl rfl rfl trivial ?_
      refine v_op hT hC rfl rfl rfl rfl trivial ?_
      refine v_off hC rfl rfl rfl rfl rfl rfl rfl ?_
      refine v_off hC rfl rfl rfl rfl rfl rfl rfl ?_
      refine v_off hC rfl rfl rfl rfl rfl rfl rfl ?_
      refine v_off hC rfl rfl rfl rfl rfl rfl rfl ?_
      refine v_off hC rfl rfl rfl rfl rfl rfl rfl ?_
      refine v_off hC rfl rfl rfl rfl rfl rfl rfl ?_
      iterate 2 refine v_op hT hC rfl rfl rfl rfl trivial ?_
      refine v_off hC rfl rfl rfl rfl rfl rfl rfl ?_
      refine v_off hC rfl rfl rfl rfl rfl rfl rfl ?_
      refine v_off hC rfl rfl rfl rfl rfl rfl rfl ?_
      refine v_off hC rfl rfl rfl rfl rfl rfl rfl ?_
      refine v_op hT hC rfl rfl rfl rfl trivial ?_
      refine Vc.nil ?_
      injection h with h
      subst h
      refine m_norm ?_
      apply w_conv hC []
      ·
       exact co
      ·
       rfl
      ·
       decide
      ·
       rfl
    rcases sel_some h with ⟨hb15, h⟩ | ⟨hb15, h⟩
    ·
     refine s_true rfl hb15 ?_
     refine aw_region ?_
     iterate 2 refine v_op hT hC rfl rfl rfl rfl trivial ?_
     obtain ⟨hq, h⟩ := req_some h
     refine v_op hT hC rfl rfl rfl rfl ⟨trivial, hq⟩ ?_
     refine v_op hT hC rfl rfl rfl rfl trivial ?_
     refine Vc.nil ?_
     injection h with h
     subst h
     refine m_norm ?_
     apply w_conv hC [(96, 656)]
     ·
      exact co
     ·
      rfl
     ·
      decide
     ·
      rfl
    ·
     refine s_false rfl hb15 ?_
     refine aw_skip ?_
     injection h with h
     subst h
     refine m_norm ?_
     apply w_conv hC []
     ·
      exact co
     ·
      rfl
     ·
      decide
     ·
      rfl
   refine aw_region ?_
   iterate 3 refine v_op hT hC rfl rfl rfl rfl trivial ?_
   obtain ⟨hq, h⟩ := req_some h
   refine v_op hT hC rfl rfl rfl rfl hq ?_
   refine v_op hT hC rfl rfl rfl rfl trivial ?_
   obtain ⟨hq, h⟩ := req_some h
   refine v_op hT hC rfl rfl rfl rfl ⟨trivial, hq⟩ ?_
   refine v_op hT hC rfl rfl rfl rfl trivial ?_
   refine Vc.nil ?_
   refine b_norm ?_
   refine t_norm ?_
   refine aw_region ?_
   iterate 3 refine v_op hT hC rfl rfl rfl rfl trivial ?_
   refine Vc.nil ?_
   injection h with h
   subst h
   refine r_go ?_
   try dsimp only
   apply w_conv hC [(96, 752)]
   ·
    exact co
   ·
    rfl
   ·
    decide
   ·
    rfl
  ·
   refine s_false rfl hb11 ?_
   refine aw_exit ?_
   refine t_exit ?_
   injection h with h
   subst h
   refine r_exit ?_
   refine o_out ?_
   apply w_conv hC []
   ·
    exact co
   ·
    rfl
   ·
    decide
   ·
    rfl
 refine t_norm ?_
 refine s_reg ?_
 iterate 3 refine v_op hT hC rfl rfl rfl rfl trivial ?_
 refine Vc.nil ?_
 refine aw_ret ?_
 injection h with h
 subst h
 exact ends (Weak.refl _) rfl trivial
def spec_Escaped_res (r : (ByteArray × Bool)) : AV := .tup [.sv (.str r.1), .sv (.bool r.2)]
def spec_Escaped_obs (r : (ByteArray × Bool)) : Objs := []
theorem spec_Escaped_ac {p0 : ByteArray} {r : (ByteArray × Bool)} (h : spec_Escaped p0 = some r) : AC Tryz.prog 68 [.sv (.str p0)] [] (spec_Escaped_res r) (spec_Escaped_obs r) := by
 refine ac_of_body hT Tryz.func68 rfl fun C hC => ?_
 unfold spec_Escaped at h
 refine s_reg ?_
 iterate 2 refine v_op hT hC rfl rfl rfl rfl trivial ?_
 refine Vc.nil ?_
 refine s_in ?_
 refine live [0] [] (s' := [_]) (o' := []) rfl rfl ?_
 obtain ⟨v1, h1, h⟩ := bnd_some h
 refine aw_to ([(19, .sv (.bool v1))], []) ?_ ?_
 ·
  have h := h1
  refine aw_region ?_
  iterate 4 refine v_op hT hC rfl rfl rfl rfl trivial ?_
  rcases sel_some h with ⟨hb1, h⟩ | ⟨hb1, h⟩
  ·
   refine v_off hC rfl rfl rfl rfl hb1 rfl rfl ?_
   refine v_off hC rfl rfl rfl rfl hb1 rfl rfl ?_
   refine v_off hC rfl rfl rfl rfl hb1 rfl rfl ?_
   refine v_pick hC rfl rfl rfl (b := true) hb1 rfl rfl rfl trivial ?_
   refine v_op hT hC rfl rfl rfl rfl trivial ?_
   refine v_off hC rfl rfl rfl rfl rfl rfl rfl ?_
   refine v_off hC rfl rfl rfl rfl rfl rfl rfl ?_
   refine v_off hC rfl rfl rfl rfl rfl rfl rfl ?_
   refine v_off hC rfl rfl rfl rfl rfl rfl rfl ?_
   refine v_off hC rfl rfl rfl rfl rfl rfl rfl ?_
   refine v_off hC rfl rfl rfl rfl rfl rfl rfl ?_
   refine v_op hT hC rfl rfl rfl rfl trivial ?_
   refine Vc.nil ?_
   injection h with h
   subst h
   refine m_norm ?_
   apply w_conv hC []
   ·
    exact co
   ·
    rfl
   ·
    decide
   ·
    rfl
  ·
   iterate 3 refine v_on hT hC rfl rfl rfl rfl hb1 rfl rfl rfl trivial ?_
   refine v_pick hC rfl rfl rfl (b := false) hb1 rfl rfl rfl trivial ?_
   refine v_op hT hC rfl rfl rfl rfl trivial ?_
   rcases sel_some h with ⟨hb2, h⟩ | ⟨hb2, h⟩
   ·
    refine v_off hC rfl rfl rfl rfl hb2 rfl rfl ?_
    refine v_off hC rfl rfl rfl rfl hb2 rfl rfl ?_
    refine v_off hC rfl rfl rfl rfl hb2 rfl rfl ?_
    refine v_off hC rfl rfl rfl rfl hb2 rfl rfl ?_
    refine v_off hC rfl rfl rfl rfl hb2 rfl rfl ?_
    refine v_off hC rfl rfl rfl rfl hb2 rfl rfl ?_
    refine v_pick hC rfl rfl rfl (b := true) hb2 rfl rfl rfl trivial ?_
    refine Vc.nil ?_
    injection h with h
    subst h
    refine m_norm ?_
    apply w_conv hC []
    ·
     exact co
    ·
     rfl
    ·
     decide
    ·
     rfl
   ·
    iterate 4 refine v_on hT hC rfl rfl rfl rfl hb2 rfl rfl rfl trivial ?_
    obtain ⟨hq, h⟩ := req_some h
    refine v_on hT hC rfl rfl rfl rfl hb2 rfl rfl rfl hq ?_
    refine v_on hT hC rfl rfl rfl rfl hb2 rfl rfl rfl trivial ?_
    refine v_pick hC rfl rfl rfl (b := false) hb2 rfl rfl rfl trivial ?_
    refine Vc.nil ?_
    injection h with h
    subst h
    refine m_norm ?_
    apply w_conv hC []
    ·
     exact co
    ·
     rfl
    ·
     decide
    ·
     rfl
 rcases sel_some h with ⟨hb3, h⟩ | ⟨hb3, h⟩
 ·
  refine s_true rfl hb3 ?_
  refine s_reg ?_
  iterate 2 refine v_op hT hC rfl rfl rfl rfl trivial ?_
  refine Vc.nil ?_
  refine aw_ret ?_
  refine t_ret ?_
  injection h with h
  subst h
  exact ends (Weak.refl _) rfl trivial
 ·
  refine s_false rfl hb3 ?_
  refine aw_skip ?_
  refine t_norm ?_
  refine s_reg ?_
  refine v_op hT hC rfl rfl rfl rfl trivial ?_
  obtain ⟨q2, hq, h⟩ := bnd_some h
  refine v_call hC [] rfl rfl rfl rfl Tryz.call91 (spec_l04Escaped_ac hq) rfl (by decide) trivial rfl (.inl rfl) rfl ?_
  iterate 2 refine v_op hT hC rfl rfl rfl rfl trivial ?_
  refine Vc.nil ?_
  refine aw_ret ?_
  injection h with h
  subst h
  exact ends (Weak.refl _) rfl trivial
def spec_Framed_res (r : (ByteArray × Bool)) : AV := .tup [.sv (.str r.1), .sv (.bool r.2)]
def spec_Framed_obs (r : (ByteArray × Bool)) : Objs := []
theorem spec_Framed_ac {p0 : (List ByteArray)} {r : (ByteArray × Bool)} (h : spec_Framed p0 = some r) : AC Tryz.prog 49 [.sv (cByteArray.sv p0)] [] (spec_Framed_res r) (spec_Framed_obs r) := by
 refine ac_of_body hT Tryz.func49 rfl fun C hC => ?_
 unfold spec_Framed at h
 refine s_reg ?_
 iterate 2 refine v_op hT hC rfl rfl rfl rfl trivial ?_
 refine Vc.nil ?_
 refine s_in ?_
 refine s_reg ?_
 iterate 3 refine v_op hT hC rfl rfl rfl rfl trivial ?_
 refine Vc.nil ?_
 rcases sel_some h with ⟨hb1, h⟩ | ⟨hb1, h⟩
 ·
  refine s_true rfl hb1 ?_
  refine s_reg ?_
  iterate 2 refine v_op hT hC rfl rfl rfl rfl trivial ?_
  refine Vc.nil ?_
  refine aw_ret ?_
  refine t_ret ?_
  injection h with h
  subst h
  exact ends (Weak.refl _) rfl trivial
 ·
  refine s_false rfl hb1 ?_
  refine aw_skip ?_
  refine t_norm ?_
  refine s_reg ?_
  iterate 2 refine v_op hT hC rfl rfl rfl rfl trivial ?_
  refine Vc.nil ?_
  refine s_in ?_
  refine s_reg ?_
  refine v_op hT hC rfl rfl rfl rfl trivial ?_
  refine Vc.nil ?_
  refine live [0, 4, 5] [176] (s' := [_, _, _]) (o' := [_]) rfl rfl ?_
  obtain ⟨o8, hl, h⟩ := bnd_some h
  refine s_loopR (fun v3 => ([(5, .sv (.int .i64 v3.1))], [(176, some (.ints .u8 v3.2))])) (fun v6 => ([(0, .any), (5, .any)], [(176, some (.ints .u8 v6))])) (fun r => EndsA C T Tryz.f49.results.toList (spec_Framed_res r) (spec_Framed_obs r)) hl ?_ ?_ ?_ ?_
  ·
   try dsimp only
   apply w_conv hC []
   ·
    exact co
   ·
    rfl
   ·
    decide
   ·
    rfl
  ·
   intro v3 s hs
   have h := hs
   unfold spec_Framed_l2 at h
   refine s_in ?_
   refine s_reg ?_
   iterate 4 refine v_op hT hC rfl rfl rfl rfl trivial ?_
   refine Vc.nil ?_
   rcases sel_some h with ⟨hb8, h⟩ | ⟨hb8, h⟩
   ·
    refine s_true rfl hb8 ?_
    refine aw_skip ?_
    refine t_norm ?_
    refine s_in ?_
    refine s_block ?_
    refine s_reg ?_
    iterate 2 refine v_op hT hC rfl rfl rfl rfl trivial ?_
    obtain ⟨hq, h⟩ := req_some h
    refine v_op hT hC rfl rfl rfl rfl hq ?_
    refine v_op hT hC rfl rfl rfl rfl trivial ?_
    obtain ⟨q7, hq, h⟩ := bnd_some h
    refine v_call hC [] rfl rfl rfl rfl Tryz.call68 (spec_Escaped_ac hq) rfl (by decide) trivial rfl (.inl rfl) rfl ?_
    iterate 5 refine v_op hT hC rfl rfl rfl rfl trivial ?_
    refine Vc.nil ?_
    refine s_in ?_
    refine s_reg ?_
    iterate 2 refine v_op hT hC rfl rfl rfl rfl trivial ?_
    refine Vc.nil ?_
    rcases sel_some h with ⟨hb9, h⟩ | ⟨hb9, h⟩
    ·
     refine s_true rfl hb9 ?_
     refine s_reg ?_
     iterate 2 refine v_op hT hC rfl rfl rfl rfl trivial ?_
     refine Vc.nil ?_
     refine aw_ret ?_
     refine t_ret ?_
     refine b_ret ?_
     refine t_ret ?_
     injection h with h
     subst h
     refine r_ret ?_
     refine o_ret ?_
     exact ends (Weak.refl _) rfl trivial
    ·
     refine s_false rfl hb9 ?_
     refine aw_skip ?_
     refine t_norm ?_
     refine s_reg ?_
     iterate 2 refine v_op hT hC rfl rfl rfl rfl trivial ?_
     obtain ⟨hq, h⟩ := req_some h
     refine v_op hT hC rfl rfl rfl rfl ⟨trivial, hq⟩ ?_
     refine v_op hT hC rfl rfl rfl rfl trivial ?_
     refine Vc.nil ?_
     refine s_reg ?_
     iterate 2 refine v_op hT hC rfl rfl rfl rfl trivial ?_
     obtain ⟨hq, h⟩ := req_some h
     refine v_op hT hC rfl rfl rfl rfl ⟨trivial, hq⟩ ?_
     refine v_op hT hC rfl rfl rfl rfl trivial ?_
     refine Vc.nil ?_
     refine s_reg ?_
     iterate 3 refine v_op hT hC rfl rfl rfl rfl trivial ?_
     refine Vc.nil ?_
     rcases sel_some h with ⟨hb10, h⟩ | ⟨hb10, h⟩
     ·
      refine s_true rfl hb10 ?_
      refine s_reg ?_
      iterate 2 refine v_op hT hC rfl rfl rfl rfl trivial ?_
      refine Vc.nil ?_
      refine aw_ret ?_
      refine b_ret ?_
      refine t_ret ?_
      injection h with h
      subst h
      refine r_ret ?_
      refine o_ret ?_
      exact ends (Weak.refl _) rfl trivial
     ·
      refine s_false rfl hb10 ?_
      refine aw_skip ?_
      refine b_norm ?_
      refine t_norm ?_
      refine aw_region ?_
      iterate 3 refine v_op hT hC rfl rfl rfl rfl trivial ?_
      refine Vc.nil ?_
      injection h with h
      subst h
      refine r_go ?_
      try dsimp only
      apply w_conv hC [(176, 528)]
      ·
       exact co
      ·
       rfl
      ·
       decide
      ·
       rfl
   ·
    refine s_false rfl hb8 ?_
    refine aw_exit ?_
    refine t_exit ?_
    injection h with h
    subst h
    refine r_exit ?_
    refine o_both ?_
    apply w_conv hC []
    ·
     exact co
    ·
     rfl
    ·
     decide
    ·
     rfl
  ·
   intro v6 e
   subst e
   refine t_norm ?_
   refine s_reg ?_
   iterate 4 refine v_op hT hC rfl rfl rfl rfl trivial ?_
   refine Vc.nil ?_
   refine aw_ret ?_
   injection h with h
   subst h
   exact ends (Weak.refl _) rfl trivial
  ·
   intro r' σ' e hE
   subst e
   injection h with h
   subst h
   refine t_ret ?_
   exact hE
def spec_SeqPlus_res (r : Int) : AV := .sv (.int .i64 r)
def spec_SeqPlus_obs (r : Int) : Objs := []
theorem spec_SeqPlus_ac {p0 : Int} {p1 : Int} {r : Int} (h : spec_SeqPlus p0 p1 = some r) : AC Tryz.prog 51 [.sv (.int .i64 p0), .sv (.int .i64 p1)] [] (spec_SeqPlus_res r) (spec_SeqPlus_obs r) := by
 refine ac_of_body hT Tryz.func51 rfl fun C hC => ?_
 unfold spec_SeqPlus at h
 refine s_reg ?_
 refine v_op hT hC rfl rfl rfl rfl trivial ?_
 refine Vc.nil ?_
 refine s_in ?_
 refine live [0, 1] [] (s' := [_, _]) (o' := []) rfl rfl ?_
 obtain ⟨v1, h1, h⟩ := bnd_some h
 refine aw_to ([(12, .sv (.bool v1))], []) ?_ ?_
 ·
  have h := h1
  refine aw_region ?_
  refine v_op hT hC rfl rfl rfl rfl trivial ?_
  obtain ⟨q2, hq, h⟩ := bnd_some h
  refine v_call hC [] rfl rfl rfl rfl Tryz.call48 (spec_l01In_ac hq) rfl (by decide) trivial rfl (.inl rfl) rfl ?_
  iterate 2 refine v_op hT hC rfl rfl rfl rfl trivial ?_
  rcases sel_some h with ⟨hb1, h⟩ | ⟨hb1, h⟩
  ·
   refine v_on hT hC rfl rfl rfl rfl (congrArg Bool.not hb1) rfl rfl rfl trivial ?_
   obtain ⟨q3, hq, h⟩ := bnd_some h
   refine v_call_on hC [] rfl rfl rfl rfl (congrArg Bool.not hb1) rfl rfl rfl Tryz.call48 (spec_l01In_ac hq) rfl (by decide) trivial rfl (.inl rfl) rfl ?_
   refine v_on hT hC rfl rfl rfl rfl (congrArg Bool.not hb1) rfl rfl rfl trivial ?_
   refine v_pick hC rfl rfl rfl (b := false) (congrArg Bool.not hb1) rfl rfl rfl trivial ?_
   refine Vc.nil ?_
   injection h with h
   subst h
   refine m_norm ?_
   apply w_conv hC []
   ·
    exact co
   ·
    rfl
   ·
    decide
   ·
    rfl
  ·
   refine v_off hC rfl rfl rfl rfl (congrArg Bool.not hb1) rfl rfl ?_
   refine v_off hC rfl rfl rfl rfl (congrArg Bool.not hb1) rfl rfl ?_
   refine v_off hC rfl rfl rfl rfl (congrArg Bool.not hb1) rfl rfl ?_
   refine v_pick hC rfl rfl rfl (b := true) (congrArg Bool.not hb1) rfl rfl rfl trivial ?_
   refine Vc.nil ?_
   injection h with h
   subst h
   refine m_norm ?_
   apply w_conv hC []
   ·
    exact co
   ·
    rfl
   ·
    decide
   ·
    rfl
 rcases sel_some h with ⟨hb2, h⟩ | ⟨hb2, h⟩
 ·
  refine s_true rfl hb2 ?_
  refine s_reg ?_
  refine v_op hT hC rfl rfl rfl rfl trivial ?_
  refine Vc.nil ?_
  refine aw_ret ?_
  refine t_ret ?_
  injection h with h
  subst h
  exact ends (Weak.refl _) rfl trivial
 ·
  refine s_false rfl hb2 ?_
  refine aw_skip ?_
  refine t_norm ?_
  refine s_reg ?_
  iterate 3 refine v_op hT hC rfl rfl rfl rfl trivial ?_
  obtain ⟨hq, h⟩ := req_some h
  refine v_op hT hC rfl rfl rfl rfl hq ?_
  refine v_op hT hC rfl rfl rfl rfl trivial ?_
  refine Vc.nil ?_
  refine aw_ret ?_
  injection h with h
  subst h
  exact ends (Weak.refl _) rfl trivial
def spec_PacketsOf_res (r : ((List Packet) × Bool)) : AV := .tup [.own 16, .sv (.bool r.2)]
def spec_PacketsOf_obs (r : ((List Packet) × Bool)) : Objs := [(16, .row cPacket r.1)]
theorem spec_PacketsOf_ac {p0 : (List ByteArray)} {p1 : Int} {p2 : Int} {r : ((List Packet) × Bool)} (h : spec_PacketsOf p0 p1 p2 = some r) : AC Tryz.prog 34 [.sv (cByteArray.sv p0), .sv (.int .i64 p1), .sv (.int .i64 p2)] [] (spec_PacketsOf_res r) (spec_PacketsOf_obs r) := by
 refine ac_of_body hT Tryz.func34 rfl fun C hC => ?_
 unfold spec_PacketsOf at h
 refine s_reg ?_
 iterate 2 refine v_op hT hC rfl rfl rfl rfl trivial ?_
 refine Vc.nil ?_
 refine s_reg ?_
 iterate 2 refine v_op hT hC rfl rfl rfl rfl trivial ?_
 refine Vc.nil ?_
 refine s_in ?_
 refine live [0, 1, 2, 8] [208] (s' := [_, _, _, _]) (o' := [_]) rfl rfl ?_
 obtain ⟨v1, h1, h⟩ := bnd_some h
 refine aw_to ([(21, .sv (.bool v1))], []) ?_ ?_
 ·
  have h := h1
  refine aw_region ?_
  refine v_op hT hC rfl rfl rfl rfl trivial ?_
  obtain ⟨q2, hq, h⟩ := bnd_some h
  refine v_call hC [] rfl rfl rfl rfl Tryz.call48 (spec_l01In_ac hq) rfl (by decide) trivial rfl (.inl rfl) rfl ?_
  iterate 2 refine v_op hT hC rfl rfl rfl rfl trivial ?_
  rcases sel_some h with ⟨hb1, h⟩ | ⟨hb1, h⟩
  ·
   refine v_on hT hC rfl rfl rfl rfl (congrArg Bool.not hb1) rfl rfl rfl trivial ?_
   obtain ⟨q3, hq, h⟩ := bnd_some h
   refine v_call_on hC [] rfl rfl rfl rfl (congrArg Bool.not hb1) rfl rfl rfl Tryz.call48 (spec_l01In_ac hq) rfl (by decide) trivial rfl (.inl rfl) rfl ?_
   refine v_on hT hC rfl rfl rfl rfl (congrArg Bool.not hb1) rfl rfl rfl trivial ?_
   refine v_pick hC rfl rfl rfl (b := false) (congrArg Bool.not hb1) rfl rfl rfl trivial ?_
   refine Vc.nil ?_
   injection h with h
   subst h
   refine m_norm ?_
   apply w_conv hC []
   ·
    exact co
   ·
    rfl
   ·
    decide
   ·
    rfl
  ·
   refine v_off hC rfl rfl rfl rfl (congrArg Bool.not hb1) rfl rfl ?_
   refine v_off hC rfl rfl rfl rfl (congrArg Bool.not hb1) rfl rfl ?_
   refine v_off hC rfl rfl rfl rfl (congrArg Bool.not hb1) rfl rfl ?_
   refine v_pick hC rfl rfl rfl (b := true) (congrArg Bool.not hb1) rfl rfl rfl trivial ?_
   refine Vc.nil ?_
   injection h with h
   subst h
   refine m_norm ?_
   apply w_conv hC []
   ·
    exact co
   ·
    rfl
   ·
    decide
   ·
    rfl
 rcases sel_some h with ⟨hb2, h⟩ | ⟨hb2, h⟩
 ·
  refine s_true rfl hb2 ?_
  refine s_reg ?_
  iterate 3 refine v_op hT hC rfl rfl rfl rfl trivial ?_
  refine Vc.nil ?_
  refine aw_ret ?_
  refine t_ret ?_
  injection h with h
  subst h
  refine ends (τ := ⟨[(6, .own 16), (7, .sv (.bool false))], [(16, some (.row cPacket ([] : List Packet)))]⟩) ?_ rfl ⟨rfl, trivial⟩
  apply w_conv hC [(16, 208)]
  ·
   exact co
  ·
   rfl
  ·
   decide
  ·
   rfl
 ·
  refine s_false rfl hb2 ?_
  refine aw_skip ?_
  refine t_norm ?_
  refine s_reg ?_
  refine v_op hT hC rfl rfl rfl rfl trivial ?_
  obtain ⟨q4, hq, h⟩ := bnd_some h
  refine v_call hC [] rfl rfl rfl rfl Tryz.call49 (spec_Framed_ac hq) rfl (by decide) trivial rfl (.inl rfl) rfl ?_
  iterate 5 refine v_op hT hC rfl rfl rfl rfl trivial ?_
  refine Vc.nil ?_
  refine s_in ?_
  refine live [1, 2, 8, 9, 10] [208] (s' := [_, _, _, _, _]) (o' := [_]) rfl rfl ?_
  obtain ⟨v5, h1, h⟩ := bnd_some h
  refine aw_to ([(44, .sv (.bool v5)), (10, .any)], []) ?_ ?_
  ·
   have h := h1
   refine aw_region ?_
   iterate 3 refine v_op hT hC rfl rfl rfl rfl trivial ?_
   rcases sel_some h with ⟨hb3, h⟩ | ⟨hb3, h⟩
   ·
    iterate 3 refine v_on hT hC rfl rfl rfl rfl (congrArg Bool.not hb3) rfl rfl rfl trivial ?_
    refine v_pick hC rfl rfl rfl (b := false) (congrArg Bool.not hb3) rfl rfl rfl trivial ?_
    refine v_op hT hC rfl rfl rfl rfl trivial ?_
    rcases sel_some h with ⟨hb4, h⟩ | ⟨hb4, h⟩
    ·
     refine v_off hC rfl rfl rfl rfl hb4 rfl rfl ?_
     refine v_off hC rfl rfl rfl rfl hb4 rfl rfl ?_
     refine v_off hC rfl rfl rfl rfl hb4 rfl rfl ?_
     refine v_off hC rfl rfl rfl rfl hb4 rfl rfl ?_
     refine v_off hC rfl rfl rfl rfl hb4 rfl rfl ?_
     refine v_off hC rfl rfl rfl rfl hb4 rfl rfl ?_
     refine v_off hC rfl rfl rfl rfl hb4 rfl rfl ?_
     refine v_off hC rfl rfl rfl rfl hb4 rfl rfl ?_
     refine v_pick hC rfl rfl rfl (b := true) hb4 rfl rfl rfl trivial ?_
     refine Vc.nil ?_
     injection h with h
     subst h
     refine m_norm ?_
     apply w_conv hC []
     ·
      exact co
     ·
      rfl
     ·
      decide
     ·
      rfl
    ·
     iterate 6 refine v_on hT hC rfl rfl rfl rfl hb4 rfl rfl rfl trivial ?_
     obtain ⟨hq, h⟩ := req_some h
     refine v_on hT hC rfl rfl rfl rfl hb4 rfl rfl rfl hq ?_
     refine v_on hT hC rfl rfl rfl rfl hb4 rfl rfl rfl trivial ?_
     refine v_pick hC rfl rfl rfl (b := false) hb4 rfl rfl rfl trivial ?_
     refine Vc.nil ?_
     injection h with h
     subst h
     refine m_norm ?_
     apply w_conv hC []
     ·
      exact co
     ·
      rfl
     ·
      decide
     ·
      rfl
   ·
    refine v_off hC rfl rfl rfl rfl (congrArg Bool.not hb3) rfl rfl ?_
    refine v_off hC rfl rfl rfl rfl (congrArg Bool.not hb3) rfl rfl ?_
    refine v_off hC rfl rfl rfl rfl (congrArg Bool.not hb3) rfl rfl ?_
    refine v_pick hC rfl rfl rfl (b := true) (congrArg Bool.not hb3) rfl rfl rfl trivial ?_
    refine v_op hT hC rfl rfl rfl rfl trivial ?_
    refine v_off hC rfl rfl rfl rfl rfl rfl rfl ?_
    refine v_off hC rfl rfl rfl rfl rfl rfl rfl ?_
    refine v_off hC rfl rfl rfl rfl rfl rfl rfl ?_
    refine v_off hC rfl rfl rfl rfl rfl rfl rfl ?_
    refine v_off hC rfl rfl rfl rfl rfl rfl rfl ?_
    refine v_off hC rfl rfl rfl rfl rfl rfl rfl ?_
    refine v_off hC rfl rfl rfl rfl rfl rfl rfl ?_
    refine v_off hC rfl rfl rfl rfl rfl rfl rfl ?_
    refine v_op hT hC rfl rfl rfl rfl trivial ?_
    refine Vc.nil ?_
    injection h with h
    subst h
    refine m_norm ?_
    apply w_conv hC []
    ·
     exact co
    ·
     rfl
    ·
     decide
    ·
     rfl
  rcases sel_some h with ⟨hb5, h⟩ | ⟨hb5, h⟩
  ·
   refine s_true rfl hb5 ?_
   refine s_reg ?_
   iterate 3 refine v_op hT hC rfl rfl rfl rfl trivial ?_
   refine Vc.nil ?_
   refine aw_ret ?_
   refine t_ret ?_
   injection h with h
   subst h
   refine ends (τ := ⟨[(6, .own 16), (7, .sv (.bool false))], [(16, some (.row cPacket ([] : List Packet)))]⟩) ?_ rfl ⟨rfl, trivial⟩
   apply w_conv hC [(16, 208)]
   ·
    exact co
   ·
    rfl
   ·
    decide
   ·
    rfl
  ·
   refine s_false rfl hb5 ?_
   refine aw_skip ?_
   refine t_norm ?_
   refine s_in ?_
   refine s_reg ?_
   refine v_op hT hC rfl rfl rfl rfl trivial ?_
   refine Vc.nil ?_
   refine live [1, 2, 8, 9, 11] [208] (s' := [_, _, _, _, _]) (o' := [_]) rfl rfl ?_
   obtain ⟨v13, hl, h⟩ := bnd_some h
   refine s_loop (fun v9 => ([(11, .sv (.int .i64 v9.1))], [(208, some (.row cPacket v9.2))])) (fun v13 => ([(1, .any), (2, .any), (9, .any), (11, .any)], [(208, some (.row cPacket v13))])) hl ?_ ?_ ?_
   ·
    try dsimp only
    apply w_conv hC []
    ·
     exact co
    ·
     rfl
    ·
     decide
    ·
     rfl
   ·
    intro v9 s hs
    have h := hs
    unfold spec_PacketsOf_l2 at h
    refine s_in ?_
    refine s_reg ?_
    iterate 4 refine v_op hT hC rfl rfl rfl rfl trivial ?_
    refine Vc.nil ?_
    rcases sel_some h with ⟨hb8, h⟩ | ⟨hb8, h⟩
    ·
     refine s_true rfl hb8 ?_
     refine aw_skip ?_
     refine t_norm ?_
     refine s_in ?_
     refine s_block ?_
     refine s_reg ?_
     iterate 5 refine v_op hT hC rfl rfl rfl rfl trivial ?_
     obtain ⟨q14, hq, h⟩ := bnd_some h
     refine v_call hC [] rfl rfl rfl rfl Tryz.call50 (spec_Brought_ac hq) rfl (by decide) trivial rfl (.inl rfl) rfl ?_
     refine v_op hT hC rfl rfl rfl rfl trivial ?_
     refine Vc.nil ?_
     refine aw_draw hm ?_
     iterate 4 refine v_op hT hC rfl rfl rfl rfl trivial ?_
     obtain ⟨q15, hq, h⟩ := bnd_some h
     refine v_call hC [] rfl rfl rfl rfl Tryz.call51 (spec_SeqPlus_ac hq) rfl (by decide) trivial rfl (.inl rfl) rfl ?_
     iterate 9 refine v_op hT hC rfl rfl rfl rfl trivial ?_
     obtain ⟨hq, h⟩ := req_some h
     refine v_op hT hC rfl rfl rfl rfl hq ?_
     iterate 2 refine v_op hT hC rfl rfl rfl rfl trivial ?_
     obtain ⟨hq, h⟩ := req_some h
     refine v_op hT hC rfl rfl rfl rfl ⟨fun _ _ => rfl, by rw [cPacket_id]; exact hq⟩ ?_
     rw [cPacket_id]
     refine v_op hT hC rfl rfl rfl rfl trivial ?_
     refine Vc.nil ⟨by kernel_rfl, ?_⟩
     refine b_norm ?_
     refine t_norm ?_
     refine aw_region ?_
     iterate 4 refine v_op hT hC rfl rfl rfl rfl trivial ?_
     refine Vc.nil ?_
     injection h with h
     subst h
     refine r_go ?_
     try dsimp only
     apply w_conv hC [(208, 1216)]
     ·
      exact co
     ·
      rfl
     ·
      decide
     ·
      rfl
    ·
     refine s_false rfl hb8 ?_
     refine aw_exit ?_
     refine t_exit ?_
     injection h with h
     subst h
     refine r_exit ?_
     refine o_out ?_
     apply w_conv hC []
     ·
      exact co
     ·
      rfl
     ·
      decide
     ·
      rfl
   refine t_norm ?_
   refine s_reg ?_
   iterate 3 refine v_op hT hC rfl rfl rfl rfl trivial ?_
   refine Vc.nil ?_
   refine aw_ret ?_
   injection h with h
   subst h
   refine ends (τ := ⟨[(6, .own 16), (7, .sv (.bool true))], [(16, some (.row cPacket v13))]⟩) ?_ rfl ⟨rfl, trivial⟩
   apply w_conv hC [(16, 208)]
   ·
    exact co
   ·
    rfl
   ·
    decide
   ·
    rfl
def spec_l22List_res (r : ((List Packet) × L01Cur)) : AV := .own 16
def spec_l22List_obs (r : ((List Packet) × L01Cur)) : Objs := [(16, .row cPacket r.1), (0, .box [.sv (.ints .u8 r.2.b_), .sv (.int .i64 r.2.i_), .sv (.int .i64 r.2.h_)])]
theorem spec_l22List_ac {p0 : L01Cur} {r : ((List Packet) × L01Cur)} (h : spec_l22List p0 = some r) : AC Tryz.prog 19 [.ptr 0 0] [(0, .box [.sv (.ints .u8 p0.b_), .sv (.int .i64 p0.i_), .sv (.int .i64 p0.h_)])] (spec_l22List_res r) (spec_l22List_obs r) := by
 refine ac_of_body hT Tryz.func19 rfl fun C hC => ?_
 unfold spec_l22List at h
 refine s_reg ?_
 refine v_op hT hC rfl rfl rfl rfl trivial ?_
 refine Vc.nil ?_
 refine s_reg ?_
 refine v_op hT hC rfl rfl rfl rfl trivial ?_
 obtain ⟨q1, hq, h⟩ := bnd_some h
 refine v_call hC [(16, 112), (0, 0)] rfl rfl rfl rfl Tryz.call31 (spec_l04Units_ac hq) rfl (by decide) ⟨rfl, trivial⟩ rfl (.inl rfl) rfl ?_
 refine v_op hT hC rfl rfl rfl rfl trivial ?_
 refine Vc.nil ?_
 refine live [0, 3] [0, 112] (s' := [_, _]) (o' := [_, _]) rfl rfl ?_
 obtain ⟨v2, h1, h⟩ := bnd_some h
 refine aw_to ([], [(0, some (.box [.sv (.ints .u8 v2.1), .sv (.int .i64 v2.2.1), .sv (.int .i64 v2.2.2.1)])), (112, some (.row cByteArray v2.2.2.2))]) ?_ ?_
 ·
  have h := h1
  refine s_reg ?_
  refine v_op hT hC rfl rfl rfl rfl trivial ?_
  obtain ⟨q3, hq, h⟩ := bnd_some h
  refine v_call hC [(0, 0)] rfl rfl rfl rfl Tryz.call32 (spec_l01Once_ac hq) rfl (by decide) ⟨rfl, trivial⟩ rfl (.inl rfl) rfl ?_
  refine Vc.nil ?_
  rcases sel_some h with ⟨hb1, h⟩ | ⟨hb1, h⟩
  ·
   refine s_true rfl hb1 ?_
   refine aw_region ?_
   refine v_op hT hC rfl rfl rfl rfl trivial ?_
   obtain ⟨q4, hq, h⟩ := bnd_some h
   refine v_call hC [(16, 192), (17, 193), (18, 194), (0, 0)] rfl rfl rfl rfl Tryz.call33 (spec_l19Right_ac hq) rfl (by decide) ⟨rfl, trivial⟩ rfl (.inl rfl) rfl ?_
   iterate 4 refine v_op hT hC rfl rfl rfl rfl trivial ?_
   refine Vc.nil ?_
   injection h with h
   subst h
   refine m_norm ?_
   try dsimp only
   apply w_conv hC [(112, 194)]
   ·
    exact co
   ·
    rfl
   ·
    decide
   ·
    rfl
  ·
   refine s_false rfl hb1 ?_
   refine aw_skip ?_
   injection h with h
   subst h
   refine m_norm ?_
   try dsimp only
   apply w_conv hC []
   ·
    exact co
   ·
    rfl
   ·
    decide
   ·
    rfl
 refine s_reg ?_
 iterate 2 refine v_op hT hC rfl rfl rfl rfl trivial ?_
 obtain ⟨q5, hq, h⟩ := bnd_some h
 refine v_call hC [(0, 0)] rfl rfl rfl rfl Tryz.call35 (spec_l22Seq_ac hq) rfl (by decide) ⟨rfl, trivial⟩ rfl (.inl rfl) rfl ?_
 refine v_op hT hC rfl rfl rfl rfl trivial ?_
 refine v_shut hT hC rfl rfl rfl rfl trivial rfl ?_
 obtain ⟨q6, hq, h⟩ := bnd_some h
 refine v_call hC [(0, 0)] rfl rfl rfl rfl Tryz.call36 (spec_l01PickInt_ac hq) rfl (by decide) ⟨rfl, trivial⟩ rfl (.inl rfl) rfl ?_
 obtain ⟨q7, hq, h⟩ := bnd_some h
 refine v_call hC [(16, 352)] rfl rfl rfl rfl Tryz.call34 (spec_PacketsOf_ac hq) rfl (by decide) trivial rfl (.inr ⟨rfl, ⟨fun _ => rfl, trivial⟩⟩) rfl ?_
 iterate 5 refine v_op hT hC rfl rfl rfl rfl trivial ?_
 refine Vc.nil ?_
 refine s_reg ?_
 iterate 2 refine v_op hT hC rfl rfl rfl rfl trivial ?_
 refine Vc.nil ?_
 refine aw_ret ?_
 injection h with h
 subst h
 refine ends (τ := ⟨[(2, .own 16)], [(16, some (.row cPacket q7.1)), (0, some (.box [.sv (.ints .u8 q6.2.b_), .sv (.int .i64 q6.2.i_), .sv (.int .i64 q6.2.h_)]))]⟩) ?_ rfl ⟨rfl, rfl, trivial⟩
 apply w_conv hC [(16, 352)]
 ·
  exact co
 ·
  rfl
 ·
  decide
 ·
  rfl
def spec_DrawPicture_res (r : (List Packet)) : AV := .own 16
def spec_DrawPicture_obs (r : (List Packet)) : Objs := [(16, .row cPacket r)]
theorem spec_DrawPicture_ac {p0 : (List Int)} {r : (List Packet)} (h : spec_DrawPicture p0 = some r) : AC Tryz.prog 6 [.sv (.ints .u8 p0)] [] (spec_DrawPicture_res r) (spec_DrawPicture_obs r) := by
 refine ac_of_body hT Tryz.func6 rfl fun C hC => ?_
 unfold spec_DrawPicture at h
 refine s_reg ?_
 refine v_op hT hC rfl rfl rfl rfl trivial ?_
 refine Vc.nil ?_
 refine s_reg ?_
 refine v_op hT hC rfl rfl rfl rfl trivial ?_
 obtain ⟨q1, hq, h⟩ := bnd_some h
 refine v_call hC [(16, 80)] rfl rfl rfl rfl Tryz.call20 (spec_l01New_ac hq) rfl (by decide) trivial rfl (.inl rfl) rfl ?_
 obtain ⟨q2, hq, h⟩ := bnd_some h
 refine v_call hC [(16, 96), (0, 80)] rfl rfl rfl rfl Tryz.call19 (spec_l22List_ac hq) rfl (by decide) ⟨rfl, trivial⟩ rfl (.inl rfl) rfl ?_
 refine v_op hT hC rfl rfl rfl rfl trivial ?_
 refine Vc.nil ?_
 refine s_in ?_
 refine live [3] [96] (s' := [_]) (o' := [_]) rfl rfl ?_
 obtain ⟨v3, h1, h⟩ := bnd_some h
 refine aw_to ([(14, .sv (.bool v3))], []) ?_ ?_
 ·
  have h := h1
  refine aw_region ?_
  iterate 4 refine v_op hT hC rfl rfl rfl rfl trivial ?_
  rcases sel_some h with ⟨hb1, h⟩ | ⟨hb1, h⟩
  ·
   refine v_off hC rfl rfl rfl rfl hb1 rfl rfl ?_
   refine v_off hC rfl rfl rfl rfl hb1 rfl rfl ?_
   refine v_off hC rfl rfl rfl rfl hb1 rfl rfl ?_
   refine v_pick hC rfl rfl rfl (b := true) hb1 rfl rfl rfl trivial ?_
   refine Vc.nil ?_
   injection h with h
   subst h
   refine m_norm ?_
   apply w_conv hC []
   ·
    exact co
   ·
    rfl
   ·
    decide
   ·
    rfl
  ·
   iterate 3 refine v_on hT hC rfl rfl rfl rfl hb1 rfl rfl rfl trivial ?_
   refine v_pick hC rfl rfl rfl (b := false) hb1 rfl rfl rfl trivial ?_
   refine Vc.nil ?_
   injection h with h
   subst h
   refine m_norm ?_
   apply w_conv hC []
   ·
    exact co
   ·
    rfl
   ·
    decide
   ·
    rfl
 rcases sel_some h with ⟨hb2, h⟩ | ⟨hb2, h⟩
 ·
  refine s_true rfl hb2 ?_
  refine s_reg ?_
  iterate 2 refine v_op hT hC rfl rfl rfl rfl trivial ?_
  refine Vc.nil ?_
  refine aw_ret ?_
  refine t_ret ?_
  injection h with h
  subst h
  refine ends (τ := ⟨[(2, .own 16)], [(16, some (.row cPacket ([] : List Packet)))]⟩) ?_ rfl ⟨rfl, trivial⟩
  apply w_conv hC [(16, 240)]
  ·
   exact co
  ·
   rfl
  ·
   decide
  ·
   rfl
 ·
  refine s_false rfl hb2 ?_
  refine aw_skip ?_
  refine t_norm ?_
  refine s_reg ?_
  iterate 2 refine v_op hT hC rfl rfl rfl rfl trivial ?_
  refine Vc.nil ?_
  refine aw_ret ?_
  injection h with h
  subst h
  refine ends (τ := ⟨[(2, .own 16)], [(16, some (.row cPacket q2.1))]⟩) ?_ rfl ⟨rfl, trivial⟩
  apply w_conv hC [(16, 96)]
  ·
   exact co
  ·
   rfl
  ·
   decide
  ·
   rfl
def spec_DrawPlaces_res (r : (List Int)) : AV := .own 16
def spec_DrawPlaces_obs (r : (List Int)) : Objs := [(16, .ints .i64 r)]
theorem spec_DrawPlaces_ac {p0 : (List Int)} {r : (List Int)} (h : spec_DrawPlaces p0 = some r) : AC Tryz.prog 7 [.sv (.ints .u8 p0)] [] (spec_DrawPlaces_res r) (spec_DrawPlaces_obs r) := by
 refine ac_of_body hT Tryz.func7 rfl fun C hC => ?_
 unfold spec_DrawPlaces at h
 refine s_reg ?_
 refine v_op hT hC rfl rfl rfl rfl trivial ?_
 refine Vc.nil ?_
 refine s_reg ?_
 refine v_op hT hC rfl rfl rfl rfl trivial ?_
 obtain ⟨q1, hq, h⟩ := bnd_some h
 refine v_call hC [(16, 112)] rfl rfl rfl rfl Tryz.call20 (spec_l01New_ac hq) rfl (by decide) trivial rfl (.inl rfl) rfl ?_
 refine v_op hT hC rfl rfl rfl rfl trivial ?_
 refine Vc.nil ?_
 refine s_reg ?_
 refine v_op hT hC rfl rfl rfl rfl trivial ?_
 obtain ⟨q2, hq, h⟩ := bnd_some h
 refine v_call hC [(0, 112)] rfl rfl rfl rfl Tryz.call21 (spec_l01Byte_ac hq) rfl (by decide) ⟨rfl, trivial⟩ rfl (.inl rfl) rfl ?_
 refine Vc.nil ?_
 refine s_reg ?_
 iterate 2 refine v_op hT hC rfl rfl rfl rfl trivial ?_
 refine Vc.nil ?_
 refine s_in ?_
 refine s_reg ?_
 refine v_op hT hC rfl rfl rfl rfl trivial ?_
 refine Vc.nil ?_
 refine live [3, 4, 5] [112, 160] (s' := [_, _, _]) (o' := [_, _]) rfl rfl ?_
 obtain ⟨v8, hl, h⟩ := bnd_some h
 refine s_loop (fun v5 => ([(5, .sv (.int .i64 v5.1))], [(112, some (.box [.sv (.ints .u8 v5.2.1), .sv (.int .i64 v5.2.2.1), .sv (.int .i64 v5.2.2.2.1)])), (160, some (.ints .i64 v5.2.2.2.2))])) (fun v8 => ([(3, .any), (5, .any)], [(160, some (.ints .i64 v8)), (112, none)])) hl ?_ ?_ ?_
 ·
  try dsimp only
  apply w_conv hC []
  ·
   exact co
  ·
   rfl
  ·
   decide
  ·
   rfl
 ·
  intro v5 s hs
  have h := hs
  unfold spec_DrawPlaces_l2 at h
  refine s_in ?_
  refine s_reg ?_
  iterate 2 refine v_op hT hC rfl rfl rfl rfl trivial ?_
  refine Vc.nil ?_
  rcases sel_some h with ⟨hb3, h⟩ | ⟨hb3, h⟩
  ·
   refine s_true rfl hb3 ?_
   refine aw_skip ?_
   refine t_norm ?_
   refine s_in ?_
   refine s_block ?_
   refine aw_region ?_
   iterate 2 refine v_op hT hC rfl rfl rfl rfl trivial ?_
   obtain ⟨q9, hq, h⟩ := bnd_some h
   refine v_call hC [(0, 112)] rfl rfl rfl rfl Tryz.call22 (spec_l01Below_ac hq) rfl (by decide) ⟨rfl, trivial⟩ rfl (.inl rfl) rfl ?_
   refine v_op hT hC rfl rfl rfl rfl trivial ?_
   obtain ⟨hq, h⟩ := req_some h
   refine v_op hT hC rfl rfl rfl rfl ⟨trivial, hq⟩ ?_
   refine v_op hT hC rfl rfl rfl rfl trivial ?_
   refine Vc.nil ?_
   refine b_norm ?_
   refine t_norm ?_
   refine aw_region ?_
   iterate 3 refine v_op hT hC rfl rfl rfl rfl trivial ?_
   refine Vc.nil ?_
   injection h with h
   subst h
   refine r_go ?_
   try dsimp only
   apply w_conv hC [(160, 304)]
   ·
    exact co
   ·
    rfl
   ·
    decide
   ·
    rfl
  ·
   refine s_false rfl hb3 ?_
   refine aw_exit ?_
   refine t_exit ?_
   injection h with h
   subst h
   refine r_exit ?_
   refine o_out ?_
   apply w_conv hC []
   ·
    exact co
   ·
    rfl
   ·
    decide
   ·
    rfl
 refine t_norm ?_
 refine s_reg ?_
 iterate 2 refine v_op hT hC rfl rfl rfl rfl trivial ?_
 refine Vc.nil ?_
 refine aw_ret ?_
 injection h with h
 subst h
 refine ends (τ := ⟨[(2, .own 16)], [(16, some (.ints .i64 v8))]⟩) ?_ rfl ⟨rfl, trivial⟩
 apply w_conv hC [(16, 160)]
 ·
  exact co
 ·
  rfl
 ·
  decide
 ·
  rfl
def impl_copyQueue_res (r : Queue) : AV := .agg [.sv (.bool r.Begun), .sv (.int .i64 r.Next), .sv (.int .i64 r.Age), .own 16, .sv (.int .i64 r.Late), .sv (.int .i64 r.Far), .sv (.int .i64 r.Twice), .sv (.int .i64 r.Over), .sv (.int .i64 r.Lost)]
def impl_copyQueue_obs (r : Queue) : Objs := [(16, .row cPacket r.Held)]
theorem impl_copyQueue_ac {p0 : Queue} {r : Queue} (h : impl_copyQueue p0 = some r) : AC Tryz.prog 23 [.agg [.sv (.bool p0.Begun), .sv (.int .i64 p0.Next), .sv (.int .i64 p0.Age), .sv (cPacket.sv p0.Held), .sv (.int .i64 p0.Late), .sv (.int .i64 p0.Far), .sv (.int .i64 p0.Twice), .sv (.int .i64 p0.Over), .sv (.int .i64 p0.Lost)]] [] (impl_copyQueue_res r) (impl_copyQueue_obs r) := by
 refine ac_of_body hT Tryz.func23 rfl fun C hC => ?_
 unfold impl_copyQueue at h
 refine s_reg ?_
 iterate 2 refine v_op hT hC rfl rfl rfl rfl trivial ?_
 refine Vc.nil ?_
 refine s_reg ?_
 iterate 3 refine v_op hT hC rfl rfl rfl rfl trivial ?_
 obtain ⟨hq, h⟩ := req_some h
 refine v_op hT hC rfl rfl rfl rfl ⟨fun _ _ => rfl, by rw [cPacket_id]; exact hq⟩ ?_
 rw [cPacket_id]
 iterate 2 refine v_op hT hC rfl rfl rfl rfl trivial ?_
 refine Vc.nil ?_
 refine s_reg ?_
 iterate 2 refine v_op hT hC rfl rfl rfl rfl trivial ?_
 refine Vc.nil ?_
 refine aw_ret ?_
 injection h with h
 subst h
 refine ends (τ := ⟨[(2, .ptr 2000000 0)], [(16, some (.row cPacket (([] : List Packet) ++ p0.Held))), (2000000, some (.box [.sv (.bool p0.Begun), .sv (.int .i64 p0.Next), .sv (.int .i64 p0.Age), .own 16, .sv (.int .i64 p0.Late), .sv (.int .i64 p0.Far), .sv (.int .i64 p0.Twice), .sv (.int .i64 p0.Over), .sv (.int .i64 p0.Lost)]))]⟩) ?_ rfl ⟨rfl, trivial⟩
 apply w_conv hC [(16, 96), (2000000, 32)]
 ·
  exact co
 ·
  rfl
 ·
  decide
 ·
  rfl
def impl_within_res (r : Bool) : AV := .sv (.bool r)
def impl_within_obs (r : Bool) : Objs := []
theorem impl_within_ac {p0 : Int} {p1 : Int} {p2 : Int} {r : Bool} (h : impl_within p0 p1 p2 = some r) : AC Tryz.prog 26 [.sv (.int .i64 p0), .sv (.int .i64 p1), .sv (.int .i64 p2)] [] (impl_within_res r) (impl_within_obs r) := by
 refine ac_of_body hT Tryz.func26 rfl fun C hC => ?_
 unfold impl_within at h
 refine s_reg ?_
 refine v_op hT hC rfl rfl rfl rfl trivial ?_
 refine Vc.nil ?_
 refine live [0, 1, 2, 6] [] (s' := [_, _, _, _]) (o' := []) rfl rfl ?_
 obtain ⟨v1, h1, h⟩ := bnd_some h
 refine aw_to ([(6, .sv (.bool v1)), (0, .any), (1, .any), (2, .any)], []) ?_ ?_
 ·
  have h := h1
  refine aw_region ?_
  iterate 4 refine v_op hT hC rfl rfl rfl rfl trivial ?_
  rcases sel_some h with ⟨hb1, h⟩ | ⟨hb1, h⟩
  ·
   iterate 3 refine v_on hT hC rfl rfl rfl rfl hb1 rfl rfl rfl trivial ?_
   refine v_pick hC rfl rfl rfl (b := true) hb1 rfl rfl rfl trivial ?_
   refine v_op hT hC rfl rfl rfl rfl trivial ?_
   refine Vc.nil ?_
   injection h with h
   subst h
   refine m_norm ?_
   apply w_conv hC []
   ·
    exact co
   ·
    rfl
   ·
    decide
   ·
    rfl
  ·
   refine v_off hC rfl rfl rfl rfl hb1 rfl rfl ?_
   refine v_off hC rfl rfl rfl rfl hb1 rfl rfl ?_
   refine v_off hC rfl rfl rfl rfl hb1 rfl rfl ?_
   refine v_pick hC rfl rfl rfl (b := false) hb1 rfl rfl rfl trivial ?_
   refine v_op hT hC rfl rfl rfl rfl trivial ?_
   refine Vc.nil ?_
   injection h with h
   subst h
   refine m_norm ?_
   apply w_conv hC []
   ·
    exact co
   ·
    rfl
   ·
    decide
   ·
    rfl
 refine aw_ret ?_
 injection h with h
 subst h
 exact ends (Weak.refl _) rfl trivial
def impl_isNumber_res (r : Bool) : AV := .sv (.bool r)
def impl_isNumber_obs (r : Bool) : Objs := []
theorem impl_isNumber_ac {p0 : Int} {r : Bool} (h : impl_isNumber p0 = some r) : AC Tryz.prog 28 [.sv (.int .i64 p0)] [] (impl_isNumber_res r) (impl_isNumber_obs r) := by
 refine ac_of_body hT Tryz.func28 rfl fun C hC => ?_
 unfold impl_isNumber at h
 refine s_reg ?_
 refine v_op hT hC rfl rfl rfl rfl trivial ?_
 refine Vc.nil ?_
 refine s_reg ?_
 refine v_op hT hC rfl rfl rfl rfl trivial ?_
 obtain ⟨q1, hq, h⟩ := bnd_some h
 refine v_call hC [] rfl rfl rfl rfl Tryz.call26 (impl_within_ac hq) rfl (by decide) trivial rfl (.inl rfl) rfl ?_
 refine v_op hT hC rfl rfl rfl rfl trivial ?_
 refine Vc.nil ?_
 refine aw_ret ?_
 injection h with h
 subst h
 exact ends (Weak.refl _) rfl trivial
def impl_SeqGap_res (r : Int) : AV := .sv (.int .i64 r)
def impl_SeqGap_obs (r : Int) : Objs := []
theorem impl_SeqGap_ac {p0 : Int} {p1 : Int} {r : Int} (h : impl_SeqGap p0 p1 = some r) : AC Tryz.prog 18 [.sv (.int .i64 p0), .sv (.int .i64 p1)] [] (impl_SeqGap_res r) (impl_SeqGap_obs r) := by
 refine ac_of_body hT Tryz.func18 rfl fun C hC => ?_
 unfold impl_SeqGap at h
 refine s_reg ?_
 refine v_op hT hC rfl rfl rfl rfl trivial ?_
 refine Vc.nil ?_
 refine s_in ?_
 refine live [0, 1] [] (s' := [_, _]) (o' := []) rfl rfl ?_
 obtain ⟨v1, h1, h⟩ := bnd_some h
 refine aw_to ([(13, .sv (.bool v1))], []) ?_ ?_
 ·
  have h := h1
  refine aw_region ?_
  refine v_op hT hC rfl rfl rfl rfl trivial ?_
  obtain ⟨q2, hq, h⟩ := bnd_some h
  refine v_call hC [] rfl rfl rfl rfl Tryz.call28 (impl_isNumber_ac hq) rfl (by decide) trivial rfl (.inl rfl) rfl ?_
  iterate 2 refine v_op hT hC rfl rfl rfl rfl trivial ?_
  rcases sel_some h with ⟨hb1, h⟩ | ⟨hb1, h⟩
  ·
   refine v_on hT hC rfl rfl rfl rfl (congrArg Bool.not hb1) rfl rfl rfl trivial ?_
   obtain ⟨q3, hq, h⟩ := bnd_some h
   refine v_call_on hC [] rfl rfl rfl rfl (congrArg Bool.not hb1) rfl rfl rfl Tryz.call28 (impl_isNumber_ac hq) rfl (by decide) trivial rfl (.inl rfl) rfl ?_
   refine v_on hT hC rfl rfl rfl rfl (congrArg Bool.not hb1) rfl rfl rfl trivial ?_
   refine v_pick hC rfl rfl rfl (b := false) (congrArg Bool.not hb1) rfl rfl rfl trivial ?_
   refine Vc.nil ?_
   injection h with h
   subst h
   refine m_norm ?_
   apply w_conv hC []
   ·
    exact co
   ·
    rfl
   ·
    decide
   ·
    rfl
  ·
   refine v_off hC rfl rfl rfl rfl (congrArg Bool.not hb1) rfl rfl ?_
   refine v_off hC rfl rfl rfl rfl (congrArg Bool.not hb1) rfl rfl ?_
   refine v_off hC rfl rfl rfl rfl (congrArg Bool.not hb1) rfl rfl ?_
   refine v_pick hC rfl rfl rfl (b := true) (congrArg Bool.not hb1) rfl rfl rfl trivial ?_
   refine Vc.nil ?_
   injection h with h
   subst h
   refine m_norm ?_
   apply w_conv hC []
   ·
    exact co
   ·
    rfl
   ·
    decide
   ·
    rfl
 rcases sel_some h with ⟨hb2, h⟩ | ⟨hb2, h⟩
 ·
  refine s_true rfl hb2 ?_
  refine s_reg ?_
  refine v_op hT hC rfl rfl rfl rfl trivial ?_
  refine Vc.nil ?_
  refine aw_ret ?_
  refine t_ret ?_
  injection h with h
  subst h
  exact ends (Weak.refl _) rfl trivial
 ·
  refine s_false rfl hb2 ?_
  refine aw_skip ?_
  refine t_norm ?_
  refine s_reg ?_
  iterate 4 refine v_op hT hC rfl rfl rfl rfl trivial ?_
  obtain ⟨hq, h⟩ := req_some h
  refine v_op hT hC rfl rfl rfl rfl hq ?_
  refine v_op hT hC rfl rfl rfl rfl trivial ?_
  refine Vc.nil ?_
  refine live [5] [] (s' := [_]) (o' := []) rfl rfl ?_
  obtain ⟨v4, h1, h⟩ := bnd_some h
  refine aw_to ([(5, .sv (.int .i64 v4))], []) ?_ ?_
  ·
   have h := h1
   refine s_reg ?_
   iterate 2 refine v_op hT hC rfl rfl rfl rfl trivial ?_
   refine Vc.nil ?_
   rcases sel_some h with ⟨hb3, h⟩ | ⟨hb3, h⟩
   ·
    refine s_true rfl hb3 ?_
    refine aw_region ?_
    iterate 3 refine v_op hT hC rfl rfl rfl rfl trivial ?_
    refine Vc.nil ?_
    injection h with h
    subst h
    refine m_norm ?_
    apply w_conv hC []
    ·
     exact co
    ·
     rfl
    ·
     decide
    ·
     rfl
   ·
    refine s_false rfl hb3 ?_
    refine aw_skip ?_
    injection h with h
    subst h
    refine m_norm ?_
    apply w_conv hC []
    ·
     exact co
    ·
     rfl
    ·
     decide
    ·
     rfl
  refine s_reg ?_
  iterate 2 refine v_op hT hC rfl rfl rfl rfl trivial ?_
  refine Vc.nil ?_
  refine aw_ret ?_
  injection h with h
  subst h
  exact ends (Weak.refl _) rfl trivial
def impl_PacketOk_res (r : Bool) : AV := .sv (.bool r)
def impl_PacketOk_obs (r : Bool) : Objs := []
theorem impl_PacketOk_ac {p0 : Packet} {r : Bool} (h : impl_PacketOk p0 = some r) : AC Tryz.prog 24 [.agg [.sv (.int .i64 p0.Seq), .sv (.bool p0.First), .sv (.bool p0.Last), .sv (.str p0.Bytes)]] [] (impl_PacketOk_res r) (impl_PacketOk_obs r) := by
 refine ac_of_body hT Tryz.func24 rfl fun C hC => ?_
 unfold impl_PacketOk at h
 refine s_reg ?_
 iterate 2 refine v_op hT hC rfl rfl rfl rfl trivial ?_
 refine Vc.nil ?_
 refine live [1, 2] [16] (s' := [_, _]) (o' := [_]) rfl rfl ?_
 obtain ⟨v1, h1, h⟩ := bnd_some h
 refine aw_to ([(2, .sv (.bool v1)), (1, .any)], [(16, none)]) ?_ ?_
 ·
  have h := h1
  refine aw_region ?_
  iterate 2 refine v_op hT hC rfl rfl rfl rfl trivial ?_
  obtain ⟨q2, hq, h⟩ := bnd_some h
  refine v_call hC [] rfl rfl rfl rfl Tryz.call28 (impl_isNumber_ac hq) rfl (by decide) trivial rfl (.inl rfl) rfl ?_
  refine v_op hT hC rfl rfl rfl rfl trivial ?_
  rcases sel_some h with ⟨hb1, h⟩ | ⟨hb1, h⟩
  ·
   iterate 3 refine v_on hT hC rfl rfl rfl rfl hb1 rfl rfl rfl trivial ?_
   obtain ⟨q3, hq, h⟩ := bnd_some h
   refine v_call_on hC [] rfl rfl rfl rfl hb1 rfl rfl rfl Tryz.call26 (impl_within_ac hq) rfl (by decide) trivial rfl (.inl rfl) rfl ?_
   refine v_pick hC rfl rfl rfl (b := true) hb1 rfl rfl rfl trivial ?_
   refine v_op hT hC rfl rfl rfl rfl trivial ?_
   refine Vc.nil ?_
   injection h with h
   subst h
   refine m_norm ?_
   apply w_conv hC []
   ·
    exact co
   ·
    rfl
   ·
    decide
   ·
    rfl
  ·
   refine v_off hC rfl rfl rfl rfl hb1 rfl rfl ?_
   refine v_off hC rfl rfl rfl rfl hb1 rfl rfl ?_
   refine v_off hC rfl rfl rfl rfl hb1 rfl rfl ?_
   refine v_off hC rfl rfl rfl rfl hb1 rfl rfl ?_
   refine v_pick hC rfl rfl rfl (b := false) hb1 rfl rfl rfl trivial ?_
   refine v_op hT hC rfl rfl rfl rfl trivial ?_
   refine Vc.nil ?_
   injection h with h
   subst h
   refine m_norm ?_
   apply w_conv hC []
   ·
    exact co
   ·
    rfl
   ·
    decide
   ·
    rfl
 refine aw_ret ?_
 injection h with h
 subst h
 exact ends (Weak.refl _) rfl trivial
def impl_QueueOk_res (r : Bool) : AV := .sv (.bool r)
def impl_QueueOk_obs (r : Bool) : Objs := []
theorem impl_QueueOk_ac {p0 : Queue} {r : Bool} (h : impl_QueueOk p0 = some r) : AC Tryz.prog 13 [.agg [.sv (.bool p0.Begun), .sv (.int .i64 p0.Next), .sv (.int .i64 p0.Age), .sv (cPacket.sv p0.Held), .sv (.int .i64 p0.Late), .sv (.int .i64 p0.Far), .sv (.int .i64 p0.Twice), .sv (.int .i64 p0.Over), .sv (.int .i64 p0.Lost)]] [] (impl_QueueOk_res r) (impl_QueueOk_obs r) := by
 refine ac_of_body hT Tryz.func13 rfl fun C hC => ?_
 unfold impl_QueueOk at h
 refine s_reg ?_
 iterate 2 refine v_op hT hC rfl rfl rfl rfl trivial ?_
 refine Vc.nil ?_
 refine s_in ?_
 refine s_reg ?_
 iterate 3 refine v_op hT hC rfl rfl rfl rfl trivial ?_
 refine Vc.nil ?_
 rcases sel_some h with ⟨hb1, h⟩ | ⟨hb1, h⟩
 ·
  refine s_true rfl hb1 ?_
  refine live [1, 2] [16] (s' := [_, _]) (o' := [_]) rfl rfl ?_
  obtain ⟨v1, h1, h⟩ := bnd_some h
  refine aw_to ([(2, .sv (.bool v1)), (1, .any)], [(16, none)]) ?_ ?_
  ·
   have h := h1
   refine aw_region ?_
   iterate 4 refine v_op hT hC rfl rfl rfl rfl trivial ?_
   rcases sel_some h with ⟨hb2, h⟩ | ⟨hb2, h⟩
   ·
    iterate 3 refine v_on hT hC rfl rfl rfl rfl hb2 rfl rfl rfl trivial ?_
    refine v_pick hC rfl rfl rfl (b := true) hb2 rfl rfl rfl trivial ?_
    refine v_op hT hC rfl rfl rfl rfl trivial ?_
    rcases sel_some h with ⟨hb3, h⟩ | ⟨hb3, h⟩
    ·
     iterate 4 refine v_on hT hC rfl rfl rfl rfl hb3 rfl rfl rfl trivial ?_
     refine v_pick hC rfl rfl rfl (b := true) hb3 rfl rfl rfl trivial ?_
     refine v_op hT hC rfl rfl rfl rfl trivial ?_
     rcases sel_some h with ⟨hb4, h⟩ | ⟨hb4, h⟩
     ·
      iterate 3 refine v_on hT hC rfl rfl rfl rfl hb4 rfl rfl rfl trivial ?_
      refine v_pick hC rfl rfl rfl (b := true) hb4 rfl rfl rfl trivial ?_
      refine v_op hT hC rfl rfl rfl rfl trivial ?_
      rcases sel_some h with ⟨hb5, h⟩ | ⟨hb5, h⟩
      ·
       iterate 3 refine v_on hT hC rfl rfl rfl rfl hb5 rfl rfl rfl trivial ?_
       refine v_pick hC rfl rfl rfl (b := true) hb5 rfl rfl rfl trivial ?_
       refine v_op hT hC rfl rfl rfl rfl trivial ?_
       rcases sel_some h with ⟨hb6, h⟩ | ⟨hb6, h⟩
       ·
        iterate 3 refine v_on hT hC rfl rfl rfl rfl hb6 rfl rfl rfl trivial ?_
        refine v_pick hC rfl rfl rfl (b := true) hb6 rfl rfl rfl trivial ?_
        refine v_op hT hC rfl rfl rfl rfl trivial ?_
        rcases sel_some h with ⟨hb7, h⟩ | ⟨hb7, h⟩
        ·
         iterate 3 refine v_on hT hC rfl rfl rfl rfl hb7 rfl rfl rfl trivial ?_
         refine v_pick hC rfl rfl rfl (b := true) hb7 rfl rfl rfl trivial ?_
         refine v_op hT hC rfl rfl rfl rfl trivial ?_
         rcases sel_some h with ⟨hb8, h⟩ | ⟨hb8, h⟩
         ·
          iterate 3 refine v_on hT hC rfl rfl rfl rfl hb8 rfl rfl rfl trivial ?_
          refine v_pick hC rfl rfl rfl (b := true) hb8 rfl rfl rfl trivial ?_
          refine v_op hT hC rfl rfl rfl rfl trivial ?_
          refine Vc.nil ?_
          injection h with h
          subst h
          refine m_norm ?_
          apply w_conv hC []
          ·
           exact co
          ·
           rfl
          ·
           decide
          ·
           rfl
         ·
          refine v_off hC rfl rfl rfl rfl hb8 rfl rfl ?_
          refine v_off hC rfl rfl rfl rfl hb8 rfl rfl ?_
          refine v_off hC rfl rfl rfl rfl hb8 rfl rfl ?_
          refine v_pick hC rfl rfl rfl (b := false) hb8 rfl rfl rfl trivial ?_
          refine v_op hT hC rfl rfl rfl rfl trivial ?_
          refine Vc.nil ?_
          injection h with h
          subst h
          refine m_norm ?_
          apply w_conv hC []
          ·
           exact co
          ·
           rfl
          ·
           decide
          ·
           rfl
        ·
         refine v_off hC rfl rfl rfl rfl hb7 rfl rfl ?_
         refine v_off hC rfl rfl rfl rfl hb7 rfl rfl ?_
         refine v_off hC rfl rfl rfl rfl hb7 rfl rfl ?_
         refine v_pick hC rfl rfl rfl (b := false) hb7 rfl rfl rfl trivial ?_
         refine v_op hT hC rfl rfl rfl rfl trivial ?_
         refine v_off hC rfl rfl rfl rfl rfl rfl rfl ?_
         refine v_off hC rfl rfl rfl rfl rfl rfl rfl ?_
         refine v_off hC rfl rfl rfl rfl rfl rfl rfl ?_
         iterate 2 refine v_op hT hC rfl rfl rfl rfl trivial ?_
         refine Vc.nil ?_
         injection h with h
         subst h
         refine m_norm ?_
         apply w_conv hC []
         ·
          exact co
         ·
          rfl
         ·
          decide
         ·
          rfl
       ·
        refine v_off hC rfl rfl rfl rfl hb6 rfl rfl ?_
        refine v_off hC rfl rfl rfl rfl hb6 rfl rfl ?_
        refine v_off hC rfl rfl rfl rfl hb6 rfl rfl ?_
        refine v_pick hC rfl rfl rfl (b := false) hb6 rfl rfl rfl trivial ?_
        refine v_op hT hC rfl rfl rfl rfl trivial ?_
        refine v_off hC rfl rfl rfl rfl rfl rfl rfl ?_
        refine v_off hC rfl rfl rfl rfl rfl rfl rfl ?_
        refine v_off hC rfl rfl rfl rfl rfl rfl rfl ?_
        iterate 2 refine v_op hT hC rfl rfl rfl rfl trivial ?_
        refine v_off hC rfl rfl rfl rfl rfl rfl rfl ?_
        refine v_off hC rfl rfl rfl rfl rfl rfl rfl ?_
        refine v_off hC rfl rfl rfl rfl rfl rfl rfl ?_
        iterate 2 refine v_op hT hC rfl rfl rfl rfl trivial ?_
        refine Vc.nil ?_
        injection h with h
        subst h
        refine m_norm ?_
        apply w_conv hC []
        ·
         exact co
        ·
         rfl
        ·
         decide
        ·
         rfl
      ·
       refine v_off hC rfl rfl rfl rfl hb5 rfl rfl ?_
       refine v_off hC rfl rfl rfl rfl hb5 rfl rfl ?_
       refine v_off hC rfl rfl rfl rfl hb5 rfl rfl ?_
       refine v_pick hC rfl rfl rfl (b := false) hb5 rfl rfl rfl trivial ?_
       refine v_op hT hC rfl rfl rfl rfl trivial ?_
       refine v_off hC rfl rfl rfl rfl rfl rfl rfl ?_
       refine v_off hC rfl rfl rfl rfl rfl rfl rfl ?_
       refine v_off hC rfl rfl rfl rfl rfl rfl rfl ?_
       iterate 2 refine v_op hT hC rfl rfl rfl rfl trivial ?_
       refine v_off hC rfl rfl rfl rfl rfl rfl rfl ?_
       refine v_off hC rfl rfl rfl rfl rfl rfl rfl ?_
       refine v_off hC rfl rfl rfl rfl rfl rfl rfl ?_
       iterate 2 refine v_op hT hC rfl rfl rfl rfl trivial ?_
       refine v_off hC rfl rfl rfl rfl rfl rfl rfl ?_
       refine v_off hC rfl rfl rfl rfl rfl rfl rfl ?_
       refine v_off hC rfl rfl rfl rfl rfl rfl rfl ?_
       iterate 2 refine v_op hT hC rfl rfl rfl rfl trivial ?_
       refine Vc.nil ?_
       injection h with h
       subst h
       refine m_norm ?_
       apply w_conv hC []
       ·
        exact co
       ·
        rfl
       ·
        decide
       ·
        rfl
     ·
      refine v_off hC rfl rfl rfl rfl hb4 rfl rfl ?_
      refine v_off hC rfl rfl rfl rfl hb4 rfl rfl ?_
      refine v_off hC rfl rfl rfl rfl hb4 rfl rfl ?_
      refine v_pick hC rfl rfl rfl (b := false) hb4 rfl rfl rfl trivial ?_
      refine v_op hT hC rfl rfl rfl rfl trivial ?_
      refine v_off hC rfl rfl rfl rfl rfl rfl rfl ?_
      refine v_off hC rfl rfl rfl rfl rfl rfl rfl ?_
      refine v_off hC rfl rfl rfl rfl rfl rfl rfl ?_
      iterate 2 refine v_op hT hC rfl rfl rfl rfl trivial ?_
      refine v_off hC rfl rfl rfl rfl rfl rfl rfl ?_
      refine v_off hC rfl rfl rfl rfl rfl rfl rfl ?_
      refine v_off hC rfl rfl rfl rfl rfl rfl rfl ?_
      iterate 2 refine v_op hT hC rfl rfl rfl rfl trivial ?_
      refine v_off hC rfl rfl rfl rfl rfl rfl rfl ?_
      refine v_off hC rfl rfl rfl rfl rfl rfl rfl ?_
      refine v_off hC rfl rfl rfl rfl rfl rfl rfl ?_
      iterate 2 refine v_op hT hC rfl rfl rfl rfl trivial ?_
      refine v_off hC rfl rfl rfl rfl rfl rfl rfl ?_
      refine v_off hC rfl rfl rfl rfl rfl rfl rfl ?_
      refine v_off hC rfl rfl rfl rfl rfl rfl rfl ?_
      iterate 2 refine v_op hT hC rfl rfl rfl rfl trivial ?_
      refine Vc.nil ?_
      injection h with h
      subst h
      refine m_norm ?_
      apply w_conv hC []
      ·
       exact co
      ·
       rfl
      ·
       decide
      ·
       rfl
    ·
     refine v_off hC rfl rfl rfl rfl hb3 rfl rfl ?_
     refine v_off hC rfl rfl rfl rfl hb3 rfl rfl ?_
     refine v_off hC rfl rfl rfl rfl hb3 rfl rfl ?_
     refine v_off hC rfl rfl rfl rfl hb3 rfl rfl ?_
     refine v_pick hC rfl rfl rfl (b := false) hb3 rfl rfl rfl trivial ?_
     refine v_op hT hC rfl rfl rfl rfl trivial ?_
     refine v_off hC rfl rfl rfl rfl rfl rfl rfl ?_
     refine v_off hC rfl rfl rfl rfl rfl rfl rfl ?_
     refine v_off hC rfl rfl rfl rfl rfl rfl rfl ?_
     iterate 2 refine v_op hT hC rfl rfl rfl rfl trivial ?_
     refine v_off hC rfl rfl rfl rfl rfl rfl rfl ?_
     refine v_off hC rfl rfl rfl rfl rfl rfl rfl ?_
     refine v_off hC rfl rfl rfl rfl rfl rfl rfl ?_
     iterate 2 refine v_op hT hC rfl rfl rfl rfl trivial ?_
     refine v_off hC rfl rfl rfl rfl rfl rfl rfl ?_
     refine v_off hC rfl rfl rfl rfl rfl rfl rfl ?_
     refine v_off hC rfl rfl rfl rfl rfl rfl rfl ?_
     iterate 2 refine v_op hT hC rfl rfl rfl rfl trivial ?_
     refine v_off hC rfl rfl rfl rfl rfl rfl rfl ?_
     refine v_off hC rfl rfl rfl rfl rfl rfl rfl ?_
     refine v_off hC rfl rfl rfl rfl rfl rfl rfl ?_
     iterate 2 refine v_op hT hC rfl rfl rfl rfl trivial ?_
     refine v_off hC rfl rfl rfl rfl rfl rfl rfl ?_
     refine v_off hC rfl rfl rfl rfl rfl rfl rfl ?_
     refine v_off hC rfl rfl rfl rfl rfl rfl rfl ?_
     iterate 2 refine v_op hT hC rfl rfl rfl rfl trivial ?_
     refine Vc.nil ?_
     injection h with h
     subst h
     refine m_norm ?_
     apply w_conv hC []
     ·
      exact co
     ·
      rfl
     ·
      decide
     ·
      rfl
   ·
    refine v_off hC rfl rfl rfl rfl hb2 rfl rfl ?_
    refine v_off hC rfl rfl rfl rfl hb2 rfl rfl ?_
    refine v_off hC rfl rfl rfl rfl hb2 rfl rfl ?_
    refine v_pick hC rfl rfl rfl (b := false) hb2 rfl rfl rfl trivial ?_
    refine v_op hT hC rfl rfl rfl rfl trivial ?_
    refine v_off hC rfl rfl rfl rfl rfl rfl rfl ?_
    refine v_off hC rfl rfl rfl rfl rfl rfl rfl ?_
    refine v_off hC rfl rfl rfl rfl rfl rfl rfl ?_
    refine v_off hC rfl rfl rfl rfl rfl rfl rfl ?_
    iterate 2 refine v_op hT hC rfl rfl rfl rfl trivial ?_
    refine v_off hC rfl rfl rfl rfl rfl rfl rfl ?_
    refine v_off hC rfl rfl rfl rfl rfl rfl rfl ?_
    refine v_off hC rfl rfl rfl rfl rfl rfl rfl ?_
    iterate 2 refine v_op hT hC rfl rfl rfl rfl trivial ?_
    refine v_off hC rfl rfl rfl rfl rfl rfl rfl ?_
    refine v_off hC rfl rfl rfl rfl rfl rfl rfl ?_
    refine v_off hC rfl rfl rfl rfl rfl rfl rfl ?_
    iterate 2 refine v_op hT hC rfl rfl rfl rfl trivial ?_
    refine v_off hC rfl rfl rfl rfl rfl rfl rfl ?_
    refine v_off hC rfl rfl rfl rfl rfl rfl rfl ?_
    refine v_off hC rfl rfl rfl rfl rfl rfl rfl ?_
    iterate 2 refine v_op hT hC rfl rfl rfl rfl trivial ?_
    refine v_off hC rfl rfl rfl rfl rfl rfl rfl ?_
    refine v_off hC rfl rfl rfl rfl rfl rfl rfl ?_
    refine v_off hC rfl rfl rfl rfl rfl rfl rfl ?_
    iterate 2 refine v_op hT hC rfl rfl rfl rfl trivial ?_
    refine v_off hC rfl rfl rfl rfl rfl rfl rfl ?_
    refine v_off hC rfl rfl rfl rfl rfl rfl rfl ?_
    refine v_off hC rfl rfl rfl rfl rfl rfl rfl ?_
    iterate 2 refine v_op hT hC rfl rfl rfl rfl trivial ?_
    refine Vc.nil ?_
    injection h with h
    subst h
    refine m_norm ?_
    apply w_conv hC []
    ·
     exact co
    ·
     rfl
    ·
     decide
    ·
     rfl
  refine aw_ret ?_
  refine t_ret ?_
  injection h with h
  subst h
  exact ends (Weak.refl _) rfl trivial
 ·
  refine s_false rfl hb1 ?_
  refine aw_skip ?_
  refine t_norm ?_
  refine s_in ?_
  refine live [1] [16] (s' := [_]) (o' := [_]) rfl rfl ?_
  obtain ⟨v2, h1, h⟩ := bnd_some h
  refine aw_to ([(66, .sv (.bool v2))], []) ?_ ?_
  ·
   have h := h1
   refine aw_region ?_
   iterate 2 refine v_op hT hC rfl rfl rfl rfl trivial ?_
   obtain ⟨q3, hq, h⟩ := bnd_some h
   refine v_call hC [] rfl rfl rfl rfl Tryz.call28 (impl_isNumber_ac hq) rfl (by decide) trivial rfl (.inl rfl) rfl ?_
   iterate 2 refine v_op hT hC rfl rfl rfl rfl trivial ?_
   rcases sel_some h with ⟨hb9, h⟩ | ⟨hb9, h⟩
   ·
    iterate 2 refine v_on hT hC rfl rfl rfl rfl (congrArg Bool.not hb9) rfl rfl rfl trivial ?_
    obtain ⟨q4, hq, h⟩ := bnd_some h
    refine v_call_on hC [] rfl rfl rfl rfl (congrArg Bool.not hb9) rfl rfl rfl Tryz.call26 (impl_within_ac hq) rfl (by decide) trivial rfl (.inl rfl) rfl ?_
    refine v_on hT hC rfl rfl rfl rfl (congrArg Bool.not hb9) rfl rfl rfl trivial ?_
    refine v_pick hC rfl rfl rfl (b := false) (congrArg Bool.not hb9) rfl rfl rfl trivial ?_
    refine v_op hT hC rfl rfl rfl rfl trivial ?_
    rcases sel_some h with ⟨hb10, h⟩ | ⟨hb10, h⟩
    ·
     iterate 4 refine v_on hT hC rfl rfl rfl rfl (congrArg Bool.not hb10) rfl rfl rfl trivial ?_
     refine v_pick hC rfl rfl rfl (b := false) (congrArg Bool.not hb10) rfl rfl rfl trivial ?_
     refine Vc.nil ?_
     injection h with h
     subst h
     refine m_norm ?_
     apply w_conv hC []
     ·
      exact co
     ·
      rfl
     ·
      decide
     ·
      rfl
    ·
     refine v_off hC rfl rfl rfl rfl (congrArg Bool.not hb10) rfl rfl ?_
     refine v_off hC rfl rfl rfl rfl (congrArg Bool.not hb10) rfl rfl ?_
     refine v_off hC rfl rfl rfl rfl (congrArg Bool.not hb10) rfl rfl ?_
     refine v_off hC rfl rfl rfl rfl (congrArg Bool.not hb10) rfl rfl ?_
     refine v_pick hC rfl rfl rfl (b := true) (congrArg Bool.not hb10) rfl rfl rfl trivial ?_
     refine Vc.nil ?_
     injection h with h
     subst h
     refine m_norm ?_
     apply w_conv hC []
     ·
      exact co
     ·
      rfl
     ·
      decide
     ·
      rfl
   ·
    refine v_off hC rfl rfl rfl rfl (congrArg Bool.not hb9) rfl rfl ?_
    refine v_off hC rfl rfl rfl rfl (congrArg Bool.not hb9) rfl rfl ?_
    refine v_off hC rfl rfl rfl rfl (congrArg Bool.not hb9) rfl rfl ?_
    refine v_off hC rfl rfl rfl rfl (congrArg Bool.not hb9) rfl rfl ?_
    refine v_pick hC rfl rfl rfl (b := true) (congrArg Bool.not hb9) rfl rfl rfl trivial ?_
    refine v_op hT hC rfl rfl rfl rfl trivial ?_
    refine v_off hC rfl rfl rfl rfl rfl rfl rfl ?_
    refine v_off hC rfl rfl rfl rfl rfl rfl rfl ?_
    refine v_off hC rfl rfl rfl rfl rfl rfl rfl ?_
    refine v_off hC rfl rfl rfl rfl rfl rfl rfl ?_
    refine v_op hT hC rfl rfl rfl rfl trivial ?_
    refine Vc.nil ?_
    injection h with h
    subst h
    refine m_norm ?_
    apply w_conv hC []
    ·
     exact co
    ·
     rfl
    ·
     decide
    ·
     rfl
  rcases sel_some h with ⟨hb11, h⟩ | ⟨hb11, h⟩
  ·
   refine s_true rfl hb11 ?_
   refine s_reg ?_
   refine v_op hT hC rfl rfl rfl rfl trivial ?_
   refine Vc.nil ?_
   refine aw_ret ?_
   refine t_ret ?_
   injection h with h
   subst h
   exact ends (Weak.refl _) rfl trivial
  ·
   refine s_false rfl hb11 ?_
   refine aw_skip ?_
   refine t_norm ?_
   refine s_reg ?_
   refine v_op hT hC rfl rfl rfl rfl trivial ?_
   refine Vc.nil ?_
   refine s_in ?_
   refine s_reg ?_
   iterate 4 refine v_op hT hC rfl rfl rfl rfl trivial ?_
   refine Vc.nil ?_
   refine live [1, 3, 68, 69, 70] [16] (s' := [_, _, _, _, _]) (o' := [_]) rfl rfl ?_
   obtain ⟨o21, hl, h⟩ := bnd_some h
   refine s_loopR (fun v10 => ([(3, .sv (.int .i64 v10.1)), (70, .sv (.int .i64 v10.2))], [])) (fun v16 => ([(3, .any), (68, .any), (69, .any), (70, .any)], [])) (fun r => EndsA C T Tryz.f13.results.toList (impl_QueueOk_res r) (impl_QueueOk_obs r)) hl ?_ ?_ ?_ ?_
   ·
    try dsimp only
    apply w_conv hC []
    ·
     exact co
    ·
     rfl
    ·
     decide
    ·
     rfl
   ·
    intro v10 s hs
    have h := hs
    unfold impl_QueueOk_l2 at h
    refine s_reg ?_
    refine v_op hT hC rfl rfl rfl rfl trivial ?_
    refine Vc.nil ?_
    refine s_in ?_
    rcases sel_some h with ⟨hb18, h⟩ | ⟨hb18, h⟩
    ·
     refine s_true rfl hb18 ?_
     refine aw_skip ?_
     refine t_norm ?_
     refine s_in ?_
     refine s_block ?_
     refine s_reg ?_
     obtain ⟨hq, h⟩ := req_some h
     refine v_op hT hC rfl rfl rfl rfl hq ?_
     iterate 3 refine v_op hT hC rfl rfl rfl rfl trivial ?_
     refine Vc.nil ?_
     refine s_reg ?_
     iterate 4 refine v_op hT hC rfl rfl rfl rfl trivial ?_
     obtain ⟨q17, hq, h⟩ := bnd_some h
     refine v_call hC [] rfl rfl rfl rfl Tryz.call18 (impl_SeqGap_ac hq) rfl (by decide) trivial rfl (.inl rfl) rfl ?_
     refine v_op hT hC rfl rfl rfl rfl trivial ?_
     refine Vc.nil ?_
     refine s_in ?_
     refine live [1, 3, 5, 6, 68, 69, 70] [16, 80] (s' := [_, _, _, _, _, _, _]) (o' := [_, _]) rfl rfl ?_
     obtain ⟨v18, h1, h⟩ := bnd_some h
     refine aw_to ([(88, .sv (.bool v18)), (3, .any), (5, .any)], [(80, none)]) ?_ ?_
     ·
      have h := h1
      refine aw_region ?_
      refine v_op hT hC rfl rfl rfl rfl trivial ?_
      obtain ⟨q19, hq, h⟩ := bnd_some h
      refine v_call hC [] rfl rfl rfl rfl Tryz.call24 (impl_PacketOk_ac hq) rfl (by decide) trivial rfl (.inl rfl) rfl ?_
      iterate 2 refine v_op hT hC rfl rfl rfl rfl trivial ?_
      rcases sel_some h with ⟨hb19, h⟩ | ⟨hb19, h⟩
      ·
       iterate 3 refine v_on hT hC rfl rfl rfl rfl (congrArg Bool.not hb19) rfl rfl rfl trivial ?_
       obtain ⟨q20, hq, h⟩ := bnd_some h
       refine v_call_on hC [] rfl rfl rfl rfl (congrArg Bool.not hb19) rfl rfl rfl Tryz.call26 (impl_within_ac hq) rfl (by decide) trivial rfl (.inl rfl) rfl ?_
       refine v_on hT hC rfl rfl rfl rfl (congrArg Bool.not hb19) rfl rfl rfl trivial ?_
       refine v_pick hC rfl rfl rfl (b := false) (congrArg Bool.not hb19) rfl rfl rfl trivial ?_
       refine Vc.nil ?_
       injection h with h
       subst h
       refine m_norm ?_
       apply w_conv hC []
       ·
        exact co
       ·
        rfl
       ·
        decide
       ·
        rfl
      ·
       refine v_off hC rfl rfl rfl rfl (congrArg Bool.not hb19) rfl rfl ?_
       refine v_off hC rfl rfl rfl rfl (congrArg Bool.not hb19) rfl rfl ?_
       refine v_off hC rfl rfl rfl rfl (congrArg Bool.not hb19) rfl rfl ?_
       refine v_off hC rfl rfl rfl rfl (congrArg Bool.not hb19) rfl rfl ?_
       refine v_off hC rfl rfl rfl rfl (congrArg Bool.not hb19) rfl rfl ?_
       refine v_pick hC rfl rfl rfl (b := true) (congrArg Bool.not hb19) rfl rfl rfl trivial ?_
       refine Vc.nil ?_
       injection h with h
       subst h
       refine m_norm ?_
       apply w_conv hC []
       ·
        exact co
       ·
        rfl
       ·
        decide
       ·
        rfl
     rcases sel_some h with ⟨hb20, h⟩ | ⟨hb20, h⟩
     ·
      refine s_true rfl hb20 ?_
      refine s_reg ?_
      refine v_op hT hC rfl rfl rfl rfl trivial ?_
      refine Vc.nil ?_
      refine aw_ret ?_
      refine t_ret ?_
      refine b_ret ?_
      refine t_ret ?_
      injection h with h
      subst h
      refine r_ret ?_
      refine o_ret ?_
      exact ends (Weak.refl _) rfl trivial
     ·
      refine s_false rfl hb20 ?_
      refine aw_skip ?_
      refine t_norm ?_
      refine aw_region ?_
      iterate 2 refine v_op hT hC rfl rfl rfl rfl trivial ?_
      refine Vc.nil ?_
      refine b_norm ?_
      refine t_norm ?_
      refine aw_region ?_
      iterate 2 refine v_op hT hC rfl rfl rfl rfl trivial ?_
      refine Vc.nil ?_
      injection h with h
      subst h
      refine r_go ?_
      try dsimp only
      apply w_conv hC []
      ·
       exact co
      ·
       rfl
      ·
       decide
      ·
       rfl
    ·
     refine s_false rfl hb18 ?_
     refine aw_exit ?_
     refine t_exit ?_
     injection h with h
     subst h
     refine r_exit ?_
     refine o_both ?_
     apply w_conv hC []
     ·
      exact co
     ·
      rfl
     ·
      decide
     ·
      rfl
   ·
    intro v16 e
    subst e
    refine t_norm ?_
    refine s_in ?_
    refine s_reg ?_
    iterate 13 refine v_op hT hC rfl rfl rfl rfl trivial ?_
    refine Vc.nil ?_
    refine live [101, 102, 103] [1616] (s' := [_, _, _]) (o' := [_]) rfl rfl ?_
    obtain ⟨o29, hl, h⟩ := bnd_some h
    refine s_loopR (fun v24 => ([(103, .sv (.int .i64 v24))], [])) (fun v27 => ([(101, .any), (102, .any), (103, .any)], [(1616, none)])) (fun r => EndsA C T Tryz.f13.results.toList (impl_QueueOk_res r) (impl_QueueOk_obs r)) hl ?_ ?_ ?_ ?_
    ·
     apply w_conv hC []
     ·
      exact co
     ·
      rfl
     ·
      decide
     ·
      rfl
    ·
     intro v24 s hs
     have h := hs
     unfold impl_QueueOk_l4 at h
     refine s_reg ?_
     refine v_op hT hC rfl rfl rfl rfl trivial ?_
     refine Vc.nil ?_
     refine s_in ?_
     rcases sel_some h with ⟨hb25, h⟩ | ⟨hb25, h⟩
     ·
      refine s_true rfl hb25 ?_
      refine aw_skip ?_
      refine t_norm ?_
      refine s_in ?_
      refine s_block ?_
      refine s_reg ?_
      obtain ⟨hq, h⟩ := req_some h
      refine v_op hT hC rfl rfl rfl rfl hq ?_
      obtain ⟨hq, h⟩ := req_some h
      refine v_op hT hC rfl rfl rfl rfl hq ?_
      refine v_op hT hC rfl rfl rfl rfl trivial ?_
      refine Vc.nil ?_
      refine s_reg ?_
      refine v_op hT hC rfl rfl rfl rfl trivial ?_
      obtain ⟨q28, hq, h⟩ := bnd_some h
      refine v_call hC [] rfl rfl rfl rfl Tryz.call26 (impl_within_ac hq) rfl (by decide) trivial rfl (.inl rfl) rfl ?_
      refine v_op hT hC rfl rfl rfl rfl trivial ?_
      refine Vc.nil ?_
      rcases sel_some h with ⟨hb26, h⟩ | ⟨hb26, h⟩
      ·
       refine s_true rfl hb26 ?_
       refine s_reg ?_
       refine v_op hT hC rfl rfl rfl rfl trivial ?_
       refine Vc.nil ?_
       refine aw_ret ?_
       refine b_ret ?_
       refine t_ret ?_
       injection h with h
       subst h
       refine r_ret ?_
       refine o_ret ?_
       exact ends (Weak.refl _) rfl trivial
      ·
       refine s_false rfl hb26 ?_
       refine aw_skip ?_
       refine b_norm ?_
       refine t_norm ?_
       refine aw_region ?_
       iterate 2 refine v_op hT hC rfl rfl rfl rfl trivial ?_
       refine Vc.nil ?_
       injection h with h
       subst h
       refine r_go ?_
       apply w_conv hC []
       ·
        exact co
       ·
        rfl
       ·
        decide
       ·
        rfl
     ·
      refine s_false rfl hb25 ?_
      refine aw_exit ?_
      refine t_exit ?_
      injection h with h
      subst h
      refine r_exit ?_
      refine o_both ?_
      apply w_conv hC []
      ·
       exact co
      ·
       rfl
      ·
       decide
      ·
       rfl
    ·
     intro v27 e
     subst e
     refine t_norm ?_
     refine s_reg ?_
     refine v_op hT hC rfl rfl rfl rfl trivial ?_
     refine Vc.nil ?_
     refine aw_ret ?_
     injection h with h
     subst h
     exact ends (Weak.refl _) rfl trivial
    ·
     intro r' σ' e hE
     subst e
     injection h with h
     subst h
     refine t_ret ?_
     exact hE
   ·
    intro r' σ' e hE
    subst e
    injection h with h
    subst h
    refine t_ret ?_
    exact hE
def impl_counted_res (r : Int) : AV := .sv (.int .i64 r)
def impl_counted_obs (r : Int) : Objs := []
theorem impl_counted_ac {p0 : Int} {r : Int} (h : impl_counted p0 = some r) : AC Tryz.prog 25 [.sv (.int .i64 p0)] [] (impl_counted_res r) (impl_counted_obs r) := by
 refine ac_of_body hT Tryz.func25 rfl fun C hC => ?_
 unfold impl_counted at h
 refine s_reg ?_
 refine v_op hT hC rfl rfl rfl rfl trivial ?_
 refine Vc.nil ?_
 refine s_reg ?_
 iterate 4 refine v_op hT hC rfl rfl rfl rfl trivial ?_
 refine Vc.nil ?_
 refine aw_ret ?_
 injection h with h
 subst h
 exact ends (Weak.refl _) rfl trivial
def impl_QueueHas_res (r : Bool) : AV := .sv (.bool r)
def impl_QueueHas_obs (r : Bool) : Objs := []
theorem impl_QueueHas_ac {p0 : Queue} {p1 : Int} {r : Bool} (h : impl_QueueHas p0 p1 = some r) : AC Tryz.prog 9 [.agg [.sv (.bool p0.Begun), .sv (.int .i64 p0.Next), .sv (.int .i64 p0.Age), .sv (cPacket.sv p0.Held), .sv (.int .i64 p0.Late), .sv (.int .i64 p0.Far), .sv (.int .i64 p0.Twice), .sv (.int .i64 p0.Over), .sv (.int .i64 p0.Lost)], .sv (.int .i64 p1)] [] (impl_QueueHas_res r) (impl_QueueHas_obs r) := by
 refine ac_of_body hT Tryz.func9 rfl fun C hC => ?_
 unfold impl_QueueHas at h
 refine s_reg ?_
 iterate 2 refine v_op hT hC rfl rfl rfl rfl trivial ?_
 refine Vc.nil ?_
 refine s_in ?_
 refine s_reg ?_
 refine v_op hT hC rfl rfl rfl rfl trivial ?_
 obtain ⟨q1, hq, h⟩ := bnd_some h
 refine v_call hC [] rfl rfl rfl rfl Tryz.call13 (impl_QueueOk_ac hq) rfl (by decide) trivial rfl (.inl rfl) rfl ?_
 refine v_op hT hC rfl rfl rfl rfl trivial ?_
 refine Vc.nil ?_
 rcases sel_some h with ⟨hb1, h⟩ | ⟨hb1, h⟩
 ·
  refine s_true rfl hb1 ?_
  refine s_reg ?_
  refine v_op hT hC rfl rfl rfl rfl trivial ?_
  refine Vc.nil ?_
  refine aw_ret ?_
  refine t_ret ?_
  injection h with h
  subst h
  exact ends (Weak.refl _) rfl trivial
 ·
  refine s_false rfl hb1 ?_
  refine aw_skip ?_
  refine t_norm ?_
  refine s_in ?_
  refine s_reg ?_
  iterate 4 refine v_op hT hC rfl rfl rfl rfl trivial ?_
  refine Vc.nil ?_
  refine live [1, 11, 12, 13] [] (s' := [_, _, _, _]) (o' := []) rfl rfl ?_
  obtain ⟨o6, hl, h⟩ := bnd_some h
  refine s_loopR (fun v3 => ([(13, .sv (.int .i64 v3))], [])) (fun v5 => ([(1, .any), (11, .any), (12, .any), (13, .any)], [])) (fun r => EndsA C T Tryz.f9.results.toList (impl_QueueHas_res r) (impl_QueueHas_obs r)) hl ?_ ?_ ?_ ?_
  ·
   apply w_conv hC []
   ·
    exact co
   ·
    rfl
   ·
    decide
   ·
    rfl
  ·
   intro v3 s hs
   have h := hs
   unfold impl_QueueHas_l2 at h
   refine s_reg ?_
   refine v_op hT hC rfl rfl rfl rfl trivial ?_
   refine Vc.nil ?_
   refine s_in ?_
   rcases sel_some h with ⟨hb6, h⟩ | ⟨hb6, h⟩
   ·
    refine s_true rfl hb6 ?_
    refine aw_skip ?_
    refine t_norm ?_
    refine s_in ?_
    refine s_block ?_
    refine s_reg ?_
    obtain ⟨hq, h⟩ := req_some h
    refine v_op hT hC rfl rfl rfl rfl hq ?_
    iterate 3 refine v_op hT hC rfl rfl rfl rfl trivial ?_
    refine Vc.nil ?_
    refine s_reg ?_
    iterate 4 refine v_op hT hC rfl rfl rfl rfl trivial ?_
    refine Vc.nil ?_
    rcases sel_some h with ⟨hb7, h⟩ | ⟨hb7, h⟩
    ·
     refine s_true rfl hb7 ?_
     refine s_reg ?_
     refine v_op hT hC rfl rfl rfl rfl trivial ?_
     refine Vc.nil ?_
     refine aw_ret ?_
     refine b_ret ?_
     refine t_ret ?_
     injection h with h
     subst h
     refine r_ret ?_
     refine o_ret ?_
     exact ends (Weak.refl _) rfl trivial
    ·
     refine s_false rfl hb7 ?_
     refine aw_skip ?_
     refine b_norm ?_
     refine t_norm ?_
     refine aw_region ?_
     iterate 2 refine v_op hT hC rfl rfl rfl rfl trivial ?_
     refine Vc.nil ?_
     injection h with h
     subst h
     refine r_go ?_
     apply w_conv hC []
     ·
      exact co
     ·
      rfl
     ·
      decide
     ·
      rfl
   ·
    refine s_false rfl hb6 ?_
    refine aw_exit ?_
    refine t_exit ?_
    injection h with h
    subst h
    refine r_exit ?_
    refine o_both ?_
    apply w_conv hC []
    ·
     exact co
    ·
     rfl
    ·
     decide
    ·
     rfl
  ·
   intro v5 e
   subst e
   refine t_norm ?_
   refine s_reg ?_
   refine v_op hT hC rfl rfl rfl rfl trivial ?_
   refine Vc.nil ?_
   refine aw_ret ?_
   injection h with h
   subst h
   exact ends (Weak.refl _) rfl trivial
  ·
   intro r' σ' e hE
   subst e
   injection h with h
   subst h
   refine t_ret ?_
   exact hE
def impl_SeqPlus_res (r : Int) : AV := .sv (.int .i64 r)
def impl_SeqPlus_obs (r : Int) : Objs := []
theorem impl_SeqPlus_ac {p0 : Int} {p1 : Int} {r : Int} (h : impl_SeqPlus p0 p1 = some r) : AC Tryz.prog 12 [.sv (.int .i64 p0), .sv (.int .i64 p1)] [] (impl_SeqPlus_res r) (impl_SeqPlus_obs r) := by
 refine ac_of_body hT Tryz.func12 rfl fun C hC => ?_
 unfold impl_SeqPlus at h
 refine s_reg ?_
 refine v_op hT hC rfl rfl rfl rfl trivial ?_
 refine Vc.nil ?_
 refine s_in ?_
 refine live [0, 1] [] (s' := [_, _]) (o' := []) rfl rfl ?_
 obtain ⟨v1, h1, h⟩ := bnd_some h
 refine aw_to ([(12, .sv (.bool v1))], []) ?_ ?_
 ·
  have h := h1
  refine aw_region ?_
  refine v_op hT hC rfl rfl rfl rfl trivial ?_
  obtain ⟨q2, hq, h⟩ := bnd_some h
  refine v_call hC [] rfl rfl rfl rfl Tryz.call28 (impl_isNumber_ac hq) rfl (by decide) trivial rfl (.inl rfl) rfl ?_
  iterate 2 refine v_op hT hC rfl rfl rfl rfl trivial ?_
  rcases sel_some h with ⟨hb1, h⟩ | ⟨hb1, h⟩
  ·
   refine v_on hT hC rfl rfl rfl rfl (congrArg Bool.not hb1) rfl rfl rfl trivial ?_
   obtain ⟨q3, hq, h⟩ := bnd_some h
   refine v_call_on hC [] rfl rfl rfl rfl (congrArg Bool.not hb1) rfl rfl rfl Tryz.call28 (impl_isNumber_ac hq) rfl (by decide) trivial rfl (.inl rfl) rfl ?_
   refine v_on hT hC rfl rfl rfl rfl (congrArg Bool.not hb1) rfl rfl rfl trivial ?_
   refine v_pick hC rfl rfl rfl (b := false) (congrArg Bool.not hb1) rfl rfl rfl trivial ?_
   refine Vc.nil ?_
   injection h with h
   subst h
   refine m_norm ?_
   apply w_conv hC []
   ·
    exact co
   ·
    rfl
   ·
    decide
   ·
    rfl
  ·
   refine v_off hC rfl rfl rfl rfl (congrArg Bool.not hb1) rfl rfl ?_
   refine v_off hC rfl rfl rfl rfl (congrArg Bool.not hb1) rfl rfl ?_
   refine v_off hC rfl rfl rfl rfl (congrArg Bool.not hb1) rfl rfl ?_
   refine v_pick hC rfl rfl rfl (b := true) (congrArg Bool.not hb1) rfl rfl rfl trivial ?_
   refine Vc.nil ?_
   injection h with h
   subst h
   refine m_norm ?_
   apply w_conv hC []
   ·
    exact co
   ·
    rfl
   ·
    decide
   ·
    rfl
 rcases sel_some h with ⟨hb2, h⟩ | ⟨hb2, h⟩
 ·
  refine s_true rfl hb2 ?_
  refine s_reg ?_
  refine v_op hT hC rfl rfl rfl rfl trivial ?_
  refine Vc.nil ?_
  refine aw_ret ?_
  refine t_ret ?_
  injection h with h
  subst h
  exact ends (Weak.refl _) rfl trivial
 ·
  refine s_false rfl hb2 ?_
  refine aw_skip ?_
  refine t_norm ?_
  refine s_reg ?_
  iterate 3 refine v_op hT hC rfl rfl rfl rfl trivial ?_
  obtain ⟨hq, h⟩ := req_some h
  refine v_op hT hC rfl rfl rfl rfl hq ?_
  refine v_op hT hC rfl rfl rfl rfl trivial ?_
  refine Vc.nil ?_
  refine aw_ret ?_
  injection h with h
  subst h
  exact ends (Weak.refl _) rfl trivial
def impl_Queue_hold_d_res (r : Queue) : AV := .tup []
def impl_Queue_hold_d_obs (r : Queue) : Objs := [(0, .box [.sv (.bool r.Begun), .sv (.int .i64 r.Next), .sv (.int .i64 r.Age), .own 16, .sv (.int .i64 r.Late), .sv (.int .i64 r.Far), .sv (.int .i64 r.Twice), .sv (.int .i64 r.Over), .sv (.int .i64 r.Lost)]), (16, .row cPacket r.Held)]
theorem impl_Queue_hold_d_ac {p0 : Queue} {p1 : Packet} {r : Queue} (h : impl_Queue_hold_d p0 p1 = some r) : AC Tryz.prog 27 [.ptr 0 0, .agg [.sv (.int .i64 p1.Seq), .sv (.bool p1.First), .sv (.bool p1.Last), .sv (.str p1.Bytes)]] [(0, .box [.sv (.bool p0.Begun), .sv (.int .i64 p0.Next), .sv (.int .i64 p0.Age), .own 2, .sv (.int .i64 p0.Late), .sv (.int .i64 p0.Far), .sv (.int .i64 p0.Twice), .sv (.int .i64 p0.Over), .sv (.int .i64 p0.Lost)]), (2, .row cPacket p0.Held)] (impl_Queue_hold_d_res r) (impl_Queue_hold_d_obs r) := by
 refine ac_of_body hT Tryz.func27 rfl fun C hC => ?_
 unfold impl_Queue_hold_d at h
 refine s_reg ?_
 refine v_op hT hC rfl rfl rfl rfl trivial ?_
 refine Vc.nil ?_
 refine s_reg ?_
 refine v_op hT hC rfl rfl rfl rfl trivial ?_
 refine Vc.nil ?_
 refine s_in ?_
 refine live [0, 3, 4] [0, 2, 48] (s' := [_, _, _]) (o' := [_, _, _]) rfl rfl ?_
 obtain ⟨v10, hl, h⟩ := bnd_some h
 refine s_loop (fun v5 => ([(4, .sv (.int .i64 v5))], [])) (fun v10 => ([(4, .sv (.int .i64 v10))], [])) hl ?_ ?_ ?_
 ·
  apply w_conv hC []
  ·
   exact co
  ·
   rfl
  ·
   decide
  ·
   rfl
 ·
  intro v5 s hs
  have h := hs
  unfold impl_Queue_hold_d_l2 at h
  refine s_in ?_
  refine live [0, 3, 4] [0, 2, 48] (s' := [_, _, _]) (o' := [_, _, _]) rfl rfl ?_
  obtain ⟨v11, h1, h⟩ := bnd_some h
  refine aw_to ([(35, .sv (.bool v11))], []) ?_ ?_
  ·
   have h := h1
   refine aw_draw hm ?_
   iterate 8 refine v_op hT hC rfl rfl rfl rfl trivial ?_
   rcases sel_some h with ⟨hb5, h⟩ | ⟨hb5, h⟩
   ·
    iterate 9 refine v_on hT hC rfl rfl rfl rfl hb5 rfl rfl rfl trivial ?_
    obtain ⟨hq, h⟩ := req_some h
    refine v_on hT hC rfl rfl rfl rfl hb5 rfl rfl rfl hq ?_
    refine v_on hT hC rfl rfl rfl rfl hb5 rfl rfl rfl trivial ?_
    obtain ⟨hq, h⟩ := req_some h
    refine v_on hT hC rfl rfl rfl rfl hb5 rfl rfl rfl hq ?_
    obtain ⟨q12, hq, h⟩ := bnd_some h
    refine v_call_on hC [] rfl rfl rfl rfl hb5 rfl rfl rfl Tryz.call18 (impl_SeqGap_ac hq) rfl (by decide) trivial rfl (.inl rfl) rfl ?_
    iterate 6 refine v_on hT hC rfl rfl rfl rfl hb5 rfl rfl rfl trivial ?_
    obtain ⟨q13, hq, h⟩ := bnd_some h
    refine v_call_on hC [] rfl rfl rfl rfl hb5 rfl rfl rfl Tryz.call18 (impl_SeqGap_ac hq) rfl (by decide) trivial rfl (.inl rfl) rfl ?_
    refine v_on hT hC rfl rfl rfl rfl hb5 rfl rfl rfl trivial ?_
    refine v_pick hC rfl rfl rfl (b := true) hb5 rfl rfl rfl trivial ?_
    refine Vc.nil ⟨by kernel_rfl, ?_⟩
    injection h with h
    subst h
    refine m_norm ?_
    apply w_conv hC []
    ·
     exact co
    ·
     rfl
    ·
     decide
    ·
     rfl
   ·
    refine v_off hC rfl rfl rfl rfl hb5 rfl rfl ?_
    refine v_off hC rfl rfl rfl rfl hb5 rfl rfl ?_
    refine v_off hC rfl rfl rfl rfl hb5 rfl rfl ?_
    refine v_off hC rfl rfl rfl rfl hb5 rfl rfl ?_
    refine v_off hC rfl rfl rfl rfl hb5 rfl rfl ?_
    refine v_off hC rfl rfl rfl rfl hb5 rfl rfl ?_
    refine v_off hC rfl rfl rfl rfl hb5 rfl rfl ?_
    refine v_off hC rfl rfl rfl rfl hb5 rfl rfl ?_
    refine v_off hC rfl rfl rfl rfl hb5 rfl rfl ?_
    refine v_off hC rfl rfl rfl rfl hb5 rfl rfl ?_
    refine v_off hC rfl rfl rfl rfl hb5 rfl rfl ?_
    refine v_off hC rfl rfl rfl rfl hb5 rfl rfl ?_
    refine v_off hC rfl rfl rfl rfl hb5 rfl rfl ?_
    refine v_off hC rfl rfl rfl rfl hb5 rfl rfl ?_
    refine v_off hC rfl rfl rfl rfl hb5 rfl rfl ?_
    refine v_off hC rfl rfl rfl rfl hb5 rfl rfl ?_
    refine v_off hC rfl rfl rfl rfl hb5 rfl rfl ?_
    refine v_off hC rfl rfl rfl rfl hb5 rfl rfl ?_
    refine v_off hC rfl rfl rfl rfl hb5 rfl rfl ?_
    refine v_off hC rfl rfl rfl rfl hb5 rfl rfl ?_
    refine v_off hC rfl rfl rfl rfl hb5 rfl rfl ?_
    refine v_pick hC rfl rfl rfl (b := false) hb5 rfl rfl rfl trivial ?_
    refine Vc.nil ⟨by kernel_rfl, ?_⟩
    injection h with h
    subst h
    refine m_norm ?_
    apply w_conv hC []
    ·
     exact co
    ·
     rfl
    ·
     decide
    ·
     rfl
  rcases sel_some h with ⟨hb6, h⟩ | ⟨hb6, h⟩
  ·
   refine s_true rfl hb6 ?_
   refine aw_skip ?_
   refine t_norm ?_
   refine s_block ?_
   refine aw_region ?_
   iterate 3 refine v_op hT hC rfl rfl rfl rfl trivial ?_
   refine Vc.nil ?_
   refine b_norm ?_
   injection h with h
   subst h
   refine r_go ?_
   apply w_conv hC []
   ·
    exact co
   ·
    rfl
   ·
    decide
   ·
    rfl
  ·
   refine s_false rfl hb6 ?_
   refine aw_exit ?_
   refine t_exit ?_
   injection h with h
   subst h
   refine r_exit ?_
   refine o_out ?_
   apply w_conv hC []
   ·
    exact co
   ·
    rfl
   ·
    decide
   ·
    rfl
 refine t_norm ?_
 refine s_reg ?_
 iterate 6 refine v_op hT hC rfl rfl rfl rfl trivial ?_
 obtain ⟨hq, h⟩ := req_some h
 refine v_op hT hC rfl rfl rfl rfl hq ?_
 obtain ⟨hq, h⟩ := req_some h
 refine v_op hT hC rfl rfl rfl rfl ⟨⟨hq.1, fun _ _ => rfl⟩, by rw [cPacket_id]; exact hq.2⟩ ?_
 rw [cPacket_id]
 refine v_op hT hC rfl rfl rfl rfl trivial ?_
 refine Vc.nil ?_
 refine aw_draw hm ?_
 iterate 4 refine v_op hT hC rfl rfl rfl rfl trivial ?_
 obtain ⟨hq, h⟩ := req_some h
 refine v_op hT hC rfl rfl rfl rfl ⟨fun _ _ => rfl, by rw [cPacket_id]; exact hq⟩ ?_
 rw [cPacket_id]
 iterate 5 refine v_op hT hC rfl rfl rfl rfl trivial ?_
 obtain ⟨hq, h⟩ := req_some h
 refine v_op hT hC rfl rfl rfl rfl hq ?_
 obtain ⟨hq, h⟩ := req_some h
 refine v_op hT hC rfl rfl rfl rfl ⟨⟨hq.1, fun _ _ => rfl⟩, by rw [cPacket_id]; exact hq.2⟩ ?_
 rw [cPacket_id]
 iterate 3 refine v_op hT hC rfl rfl rfl rfl trivial ?_
 refine Vc.nil ⟨by kernel_rfl, ?_⟩
 injection h with h
 subst h
 refine ends_n (τ := ⟨[], [(16, some (.row cPacket (((([] : List Packet) ++ ((p0.Held.drop ((0 : Int).toNat)).take (v10.toNat - (0 : Int).toNat))) ++ ([p1])) ++ ((p0.Held.drop v10.toNat).take ((p0.Held.length : Int).toNat - v10.toNat))))), (0, some (.box [.sv (.bool p0.Begun), .sv (.int .i64 p0.Next), .sv (.int .i64 p0.Age), .own 16, .sv (.int .i64 p0.Late), .sv (.int .i64 p0.Far), .sv (.int .i64 p0.Twice), .sv (.int .i64 p0.Over), .sv (.int .i64 p0.Lost)]))]⟩) ?_ rfl ⟨rfl, rfl, trivial⟩
 apply w_conv hC [(16, 912)]
 ·
  exact co
 ·
  rfl
 ·
  decide
 ·
  rfl
def impl_QueueIn_res (r : (Queue × Int)) : AV := .tup [.agg [.sv (.bool r.1.Begun), .sv (.int .i64 r.1.Next), .sv (.int .i64 r.1.Age), .own 16, .sv (.int .i64 r.1.Late), .sv (.int .i64 r.1.Far), .sv (.int .i64 r.1.Twice), .sv (.int .i64 r.1.Over), .sv (.int .i64 r.1.Lost)], .sv (.int .i64 r.2)]
def impl_QueueIn_obs (r : (Queue × Int)) : Objs := [(16, .row cPacket r.1.Held)]
theorem impl_QueueIn_ac {p0 : Queue} {p1 : Packet} {r : (Queue × Int)} (h : impl_QueueIn p0 p1 = some r) : AC Tryz.prog 8 [.agg [.sv (.bool p0.Begun), .sv (.int .i64 p0.Next), .sv (.int .i64 p0.Age), .sv (cPacket.sv p0.Held), .sv (.int .i64 p0.Late), .sv (.int .i64 p0.Far), .sv (.int .i64 p0.Twice), .sv (.int .i64 p0.Over), .sv (.int .i64 p0.Lost)], .agg [.sv (.int .i64 p1.Seq), .sv (.bool p1.First), .sv (.bool p1.Last), .sv (.str p1.Bytes)]] [] (impl_QueueIn_res r) (impl_QueueIn_obs r) := by
 refine ac_of_body hT Tryz.func8 rfl fun C hC => ?_
 unfold impl_QueueIn at h
 refine s_reg ?_
 iterate 4 refine v_op hT hC rfl rfl rfl rfl trivial ?_
 refine Vc.nil ?_
 refine s_reg ?_
 refine v_op hT hC rfl rfl rfl rfl trivial ?_
 obtain ⟨q1, hq, h⟩ := bnd_some h
 refine v_call hC [(16, 160)] rfl rfl rfl rfl Tryz.call23 (impl_copyQueue_ac hq) rfl (by decide) trivial rfl (.inl rfl) rfl ?_
 iterate 2 refine v_op hT hC rfl rfl rfl rfl trivial ?_
 refine Vc.nil ?_
 refine s_in ?_
 refine s_block ?_
 refine s_reg ?_
 refine v_op hT hC rfl rfl rfl rfl trivial ?_
 obtain ⟨q2, hq, h⟩ := bnd_some h
 refine v_call hC [] rfl rfl rfl rfl Tryz.call13 (impl_QueueOk_ac hq) rfl (by decide) trivial rfl (.inl rfl) rfl ?_
 iterate 2 refine v_op hT hC rfl rfl rfl rfl trivial ?_
 refine Vc.nil ?_
 rcases sel_some h with ⟨hb1, h⟩ | ⟨hb1, h⟩
 ·
  refine s_true rfl hb1 ?_
  refine s_reg ?_
  iterate 3 refine v_op hT hC rfl rfl rfl rfl trivial ?_
  refine Vc.nil ?_
  refine aw_ret ?_
  refine b_ret ?_
  refine t_ret ?_
  injection h with h
  subst h
  refine ends (τ := ⟨[(4, .ptr 2000000 0), (5, .sv (.int .i64 1))], [(16, some (.row cPacket q1.Held)), (2000000, some (.box [.sv (.bool q1.Begun), .sv (.int .i64 q1.Next), .sv (.int .i64 q1.Age), .own 16, .sv (.int .i64 q1.Late), .sv (.int .i64 q1.Far), .sv (.int .i64 q1.Twice), .sv (.int .i64 q1.Over), .sv (.int .i64 q1.Lost)]))]⟩) ?_ rfl ⟨rfl, trivial⟩
  apply w_conv hC [(16, 160), (2000000, 64)]
  ·
   exact co
  ·
   rfl
  ·
   decide
  ·
   rfl
 ·
  refine s_false rfl hb1 ?_
  refine s_reg ?_
  refine v_op hT hC rfl rfl rfl rfl trivial ?_
  obtain ⟨q3, hq, h⟩ := bnd_some h
  refine v_call hC [] rfl rfl rfl rfl Tryz.call24 (impl_PacketOk_ac hq) rfl (by decide) trivial rfl (.inl rfl) rfl ?_
  iterate 2 refine v_op hT hC rfl rfl rfl rfl trivial ?_
  refine Vc.nil ?_
  rcases sel_some h with ⟨hb2, h⟩ | ⟨hb2, h⟩
  ·
   refine s_true rfl hb2 ?_
   refine s_reg ?_
   iterate 3 refine v_op hT hC rfl rfl rfl rfl trivial ?_
   refine Vc.nil ?_
   refine aw_ret ?_
   refine b_ret ?_
   refine t_ret ?_
   injection h with h
   subst h
   refine ends (τ := ⟨[(4, .ptr 2000000 0), (5, .sv (.int .i64 2))], [(16, some (.row cPacket q1.Held)), (2000000, some (.box [.sv (.bool q1.Begun), .sv (.int .i64 q1.Next), .sv (.int .i64 q1.Age), .own 16, .sv (.int .i64 q1.Late), .sv (.int .i64 q1.Far), .sv (.int .i64 q1.Twice), .sv (.int .i64 q1.Over), .sv (.int .i64 q1.Lost)]))]⟩) ?_ rfl ⟨rfl, trivial⟩
   apply w_conv hC [(16, 160), (2000000, 64)]
   ·
    exact co
   ·
    rfl
   ·
    decide
   ·
    rfl
  ·
   refine s_false rfl hb2 ?_
   refine s_reg ?_
   iterate 4 refine v_op hT hC rfl rfl rfl rfl trivial ?_
   refine Vc.nil ?_
   rcases sel_some h with ⟨hb3, h⟩ | ⟨hb3, h⟩
   ·
    refine s_true rfl hb3 ?_
    refine s_reg ?_
    iterate 2 refine v_op hT hC rfl rfl rfl rfl trivial ?_
    refine Vc.nil ?_
    refine s_reg ?_
    iterate 4 refine v_op hT hC rfl rfl rfl rfl trivial ?_
    refine Vc.nil ?_
    refine s_reg ?_
    iterate 4 refine v_op hT hC rfl rfl rfl rfl trivial ?_
    refine Vc.nil ?_
    refine s_reg ?_
    iterate 3 refine v_op hT hC rfl rfl rfl rfl trivial ?_
    refine Vc.nil ?_
    refine aw_ret ?_
    refine b_ret ?_
    refine t_ret ?_
    injection h with h
    subst h
    refine ends (τ := ⟨[(4, .ptr 2000000 0), (5, .sv (.int .i64 0))], [(16, some (.row cPacket ([p1]))), (2000000, some (.box [.sv (.bool true), .sv (.int .i64 p1.Seq), .sv (.int .i64 q1.Age), .own 16, .sv (.int .i64 q1.Late), .sv (.int .i64 q1.Far), .sv (.int .i64 q1.Twice), .sv (.int .i64 q1.Over), .sv (.int .i64 q1.Lost)]))]⟩) ?_ rfl ⟨rfl, trivial⟩
    apply w_conv hC [(16, 480), (2000000, 64)]
    ·
     exact co
    ·
     rfl
    ·
     decide
    ·
     rfl
   ·
    refine s_false rfl hb3 ?_
    refine aw_skip ?_
    refine b_norm ?_
    refine t_norm ?_
    refine s_reg ?_
    iterate 4 refine v_op hT hC rfl rfl rfl rfl trivial ?_
    obtain ⟨q4, hq, h⟩ := bnd_some h
    refine v_call hC [] rfl rfl rfl rfl Tryz.call18 (impl_SeqGap_ac hq) rfl (by decide) trivial rfl (.inl rfl) rfl ?_
    refine v_op hT hC rfl rfl rfl rfl trivial ?_
    refine Vc.nil ?_
    refine s_in ?_
    refine s_block ?_
    refine live [2, 3, 4, 6, 7] [32, 48, 64, 96, 160] (s' := [_, _, _, _, _]) (o' := [_, _, _, _, _]) rfl rfl ?_
    obtain ⟨v5, h1, h⟩ := bnd_some h
    refine aw_to ([(38, .sv (.bool v5))], []) ?_ ?_
    ·
     have h := h1
     refine aw_region ?_
     iterate 3 refine v_op hT hC rfl rfl rfl rfl trivial ?_
     rcases sel_some h with ⟨hb4, h⟩ | ⟨hb4, h⟩
     ·
      refine v_off hC rfl rfl rfl rfl hb4 rfl rfl ?_
      refine v_off hC rfl rfl rfl rfl hb4 rfl rfl ?_
      refine v_pick hC rfl rfl rfl (b := true) hb4 rfl rfl rfl trivial ?_
      refine v_op hT hC rfl rfl rfl rfl trivial ?_
      refine Vc.nil ?_
      injection h with h
      subst h
      refine m_norm ?_
      apply w_conv hC []
      ·
       exact co
      ·
       rfl
      ·
       decide
      ·
       rfl
     ·
      iterate 2 refine v_on hT hC rfl rfl rfl rfl hb4 rfl rfl rfl trivial ?_
      refine v_pick hC rfl rfl rfl (b := false) hb4 rfl rfl rfl trivial ?_
      refine v_op hT hC rfl rfl rfl rfl trivial ?_
      refine Vc.nil ?_
      injection h with h
      subst h
      refine m_norm ?_
      apply w_conv hC []
      ·
       exact co
      ·
       rfl
      ·
       decide
      ·
       rfl
    rcases sel_some h with ⟨hb5, h⟩ | ⟨hb5, h⟩
    ·
     refine s_true rfl hb5 ?_
     refine s_reg ?_
     iterate 2 refine v_op hT hC rfl rfl rfl rfl trivial ?_
     obtain ⟨q6, hq, h⟩ := bnd_some h
     refine v_call hC [] rfl rfl rfl rfl Tryz.call25 (impl_counted_ac hq) rfl (by decide) trivial rfl (.inl rfl) rfl ?_
     iterate 2 refine v_op hT hC rfl rfl rfl rfl trivial ?_
     refine Vc.nil ?_
     refine s_reg ?_
     iterate 4 refine v_op hT hC rfl rfl rfl rfl trivial ?_
     refine Vc.nil ?_
     refine s_reg ?_
     iterate 4 refine v_op hT hC rfl rfl rfl rfl trivial ?_
     refine Vc.nil ?_
     refine s_reg ?_
     iterate 2 refine v_op hT hC rfl rfl rfl rfl trivial ?_
     refine Vc.nil ?_
     refine s_reg ?_
     iterate 3 refine v_op hT hC rfl rfl rfl rfl trivial ?_
     refine Vc.nil ?_
     refine aw_ret ?_
     refine b_ret ?_
     refine t_ret ?_
     injection h with h
     subst h
     refine ends (τ := ⟨[(4, .ptr 2000000 0), (5, .sv (.int .i64 4))], [(16, some (.row cPacket ([p1]))), (2000000, some (.box [.sv (.bool q1.Begun), .sv (.int .i64 p1.Seq), .sv (.int .i64 0), .own 16, .sv (.int .i64 q1.Late), .sv (.int .i64 q6), .sv (.int .i64 q1.Twice), .sv (.int .i64 q1.Over), .sv (.int .i64 q1.Lost)]))]⟩) ?_ rfl ⟨rfl, trivial⟩
     apply w_conv hC [(16, 848), (2000000, 64)]
     ·
      exact co
     ·
      rfl
     ·
      decide
     ·
      rfl
    ·
     refine s_false rfl hb5 ?_
     refine s_reg ?_
     iterate 3 refine v_op hT hC rfl rfl rfl rfl trivial ?_
     refine Vc.nil ?_
     rcases sel_some h with ⟨hb6, h⟩ | ⟨hb6, h⟩
     ·
      refine s_true rfl hb6 ?_
      refine s_reg ?_
      iterate 2 refine v_op hT hC rfl rfl rfl rfl trivial ?_
      obtain ⟨q7, hq, h⟩ := bnd_some h
      refine v_call hC [] rfl rfl rfl rfl Tryz.call25 (impl_counted_ac hq) rfl (by decide) trivial rfl (.inl rfl) rfl ?_
      iterate 2 refine v_op hT hC rfl rfl rfl rfl trivial ?_
      refine Vc.nil ?_
      refine s_reg ?_
      iterate 3 refine v_op hT hC rfl rfl rfl rfl trivial ?_
      refine Vc.nil ?_
      refine aw_ret ?_
      refine b_ret ?_
      refine t_ret ?_
      injection h with h
      subst h
      refine ends (τ := ⟨[(4, .ptr 2000000 0), (5, .sv (.int .i64 3))], [(16, some (.row cPacket q1.Held)), (2000000, some (.box [.sv (.bool q1.Begun), .sv (.int .i64 q1.Next), .sv (.int .i64 q1.Age), .own 16, .sv (.int .i64 q7), .sv (.int .i64 q1.Far), .sv (.int .i64 q1.Twice), .sv (.int .i64 q1.Over), .sv (.int .i64 q1.Lost)]))]⟩) ?_ rfl ⟨rfl, trivial⟩
      apply w_conv hC [(16, 160), (2000000, 64)]
      ·
       exact co
      ·
       rfl
      ·
       decide
      ·
       rfl
     ·
      refine s_false rfl hb6 ?_
      refine s_reg ?_
      iterate 3 refine v_op hT hC rfl rfl rfl rfl trivial ?_
      obtain ⟨q8, hq, h⟩ := bnd_some h
      refine v_call hC [] rfl rfl rfl rfl Tryz.call9 (impl_QueueHas_ac hq) rfl (by decide) trivial rfl (.inl rfl) rfl ?_
      refine v_op hT hC rfl rfl rfl rfl trivial ?_
      refine Vc.nil ?_
      rcases sel_some h with ⟨hb7, h⟩ | ⟨hb7, h⟩
      ·
       refine s_true rfl hb7 ?_
       refine s_reg ?_
       iterate 2 refine v_op hT hC rfl rfl rfl rfl trivial ?_
       obtain ⟨q9, hq, h⟩ := bnd_some h
       refine v_call hC [] rfl rfl rfl rfl Tryz.call25 (impl_counted_ac hq) rfl (by decide) trivial rfl (.inl rfl) rfl ?_
       iterate 2 refine v_op hT hC rfl rfl rfl rfl trivial ?_
       refine Vc.nil ?_
       refine s_reg ?_
       iterate 3 refine v_op hT hC rfl rfl rfl rfl trivial ?_
       refine Vc.nil ?_
       refine aw_ret ?_
       refine b_ret ?_
       refine t_ret ?_
       injection h with h
       subst h
       refine ends (τ := ⟨[(4, .ptr 2000000 0), (5, .sv (.int .i64 5))], [(16, some (.row cPacket q1.Held)), (2000000, some (.box [.sv (.bool q1.Begun), .sv (.int .i64 q1.Next), .sv (.int .i64 q1.Age), .own 16, .sv (.int .i64 q1.Late), .sv (.int .i64 q1.Far), .sv (.int .i64 q9), .sv (.int .i64 q1.Over), .sv (.int .i64 q1.Lost)]))]⟩) ?_ rfl ⟨rfl, trivial⟩
       apply w_conv hC [(16, 160), (2000000, 64)]
       ·
        exact co
       ·
        rfl
       ·
        decide
       ·
        rfl
      ·
       refine s_false rfl hb7 ?_
       refine s_reg ?_
       iterate 5 refine v_op hT hC rfl rfl rfl rfl trivial ?_
       refine Vc.nil ?_
       rcases sel_some h with ⟨hb8, h⟩ | ⟨hb8, h⟩
       ·
        refine s_true rfl hb8 ?_
        refine s_reg ?_
        iterate 2 refine v_op hT hC rfl rfl rfl rfl trivial ?_
        obtain ⟨q10, hq, h⟩ := bnd_some h
        refine v_call hC [] rfl rfl rfl rfl Tryz.call25 (impl_counted_ac hq) rfl (by decide) trivial rfl (.inl rfl) rfl ?_
        iterate 2 refine v_op hT hC rfl rfl rfl rfl trivial ?_
        refine Vc.nil ?_
        refine s_reg ?_
        refine v_op hT hC rfl rfl rfl rfl trivial ?_
        refine Vc.nil ?_
        refine s_in ?_
        refine live [2, 3, 4, 6, 8] [32, 48, 64, 96, 160] (s' := [_, _, _, _, _]) (o' := [_, _, _, _, _]) rfl rfl ?_
        obtain ⟨v16, hl, h⟩ := bnd_some h
        refine s_loop (fun v13 => ([(8, .sv (.int .i64 v13))], [])) (fun v16 => ([(8, .sv (.int .i64 v16))], [])) hl ?_ ?_ ?_
        ·
         apply w_conv hC []
         ·
          exact co
         ·
          rfl
         ·
          decide
         ·
          rfl
        ·
         intro v13 s hs
         have h := hs
         unfold impl_QueueIn_l4 at h
         refine s_in ?_
         refine live [2, 3, 4, 6, 8] [32, 48, 64, 96, 160] (s' := [_, _, _, _, _]) (o' := [_, _, _, _, _]) rfl rfl ?_
         obtain ⟨v17, h1, h⟩ := bnd_some h
         refine aw_to ([(98, .sv (.bool v17))], []) ?_ ?_
         ·
          have h := h1
          refine aw_region ?_
          iterate 7 refine v_op hT hC rfl rfl rfl rfl trivial ?_
          rcases sel_some h with ⟨hb13, h⟩ | ⟨hb13, h⟩
          ·
           iterate 3 refine v_on hT hC rfl rfl rfl rfl hb13 rfl rfl rfl trivial ?_
           obtain ⟨hq, h⟩ := req_some h
           refine v_on hT hC rfl rfl rfl rfl hb13 rfl rfl rfl hq ?_
           iterate 3 refine v_on hT hC rfl rfl rfl rfl hb13 rfl rfl rfl trivial ?_
           refine v_pick hC rfl rfl rfl (b := true) hb13 rfl rfl rfl trivial ?_
           refine Vc.nil ?_
           injection h with h
           subst h
           refine m_norm ?_
           apply w_conv hC []
           ·
            exact co
           ·
            rfl
           ·
            decide
           ·
            rfl
          ·
           refine v_off hC rfl rfl rfl rfl hb13 rfl rfl ?_
           refine v_off hC rfl rfl rfl rfl hb13 rfl rfl ?_
           refine v_off hC rfl rfl rfl rfl hb13 rfl rfl ?_
           refine v_off hC rfl rfl rfl rfl hb13 rfl rfl ?_
           refine v_off hC rfl rfl rfl rfl hb13 rfl rfl ?_
           refine v_off hC rfl rfl rfl rfl hb13 rfl rfl ?_
           refine v_off hC rfl rfl rfl rfl hb13 rfl rfl ?_
           refine v_pick hC rfl rfl rfl (b := false) hb13 rfl rfl rfl trivial ?_
           refine Vc.nil ?_
           injection h with h
           subst h
           refine m_norm ?_
           apply w_conv hC []
           ·
            exact co
           ·
            rfl
           ·
            decide
           ·
            rfl
         rcases sel_some h with ⟨hb14, h⟩ | ⟨hb14, h⟩
         ·
          refine s_true rfl hb14 ?_
          refine aw_skip ?_
          refine t_norm ?_
          refine s_block ?_
          refine aw_region ?_
          iterate 3 refine v_op hT hC rfl rfl rfl rfl trivial ?_
          refine Vc.nil ?_
          refine b_norm ?_
          injection h with h
          subst h
          refine r_go ?_
          apply w_conv hC []
          ·
           exact co
          ·
           rfl
          ·
           decide
          ·
           rfl
         ·
          refine s_false rfl hb14 ?_
          refine aw_exit ?_
          refine t_exit ?_
          injection h with h
          subst h
          refine r_exit ?_
          refine o_out ?_
          apply w_conv hC []
          ·
           exact co
          ·
           rfl
          ·
           decide
          ·
           rfl
        refine t_norm ?_
        refine s_reg ?_
        iterate 3 refine v_op hT hC rfl rfl rfl rfl trivial ?_
        obtain ⟨hq, h⟩ := req_some h
        refine v_op hT hC rfl rfl rfl rfl hq ?_
        iterate 2 refine v_op hT hC rfl rfl rfl rfl trivial ?_
        obtain ⟨q19, hq, h⟩ := bnd_some h
        refine v_call hC [] rfl rfl rfl rfl Tryz.call12 (impl_SeqPlus_ac hq) rfl (by decide) trivial rfl (.inl rfl) rfl ?_
        iterate 2 refine v_op hT hC rfl rfl rfl rfl trivial ?_
        refine Vc.nil ?_
        refine s_reg ?_
        iterate 4 refine v_op hT hC rfl rfl rfl rfl trivial ?_
        obtain ⟨hq, h⟩ := req_some h
        refine v_op hT hC rfl rfl rfl rfl hq ?_
        iterate 2 refine v_op hT hC rfl rfl rfl rfl trivial ?_
        refine Vc.nil ?_
        refine aw_weak (w_subr hC 96 3 160 2066 rfl rfl rfl rfl cPacket_ok (by omega) rfl rfl (Weak.refl _)) ?_
        refine s_reg ?_
        iterate 2 refine v_op hT hC rfl rfl rfl rfl trivial ?_
        refine Vc.nil ?_
        refine live [3, 4, 6] [48, 64, 96, 2066] (s' := [_, _, _]) (o' := [_, _, _, _]) rfl rfl ?_
        obtain ⟨v20, h1, h⟩ := bnd_some h
        refine aw_to ([(3, .any)], [(96, some (.box [.sv (.bool v20.1), .sv (.int .i64 v20.2.1), .sv (.int .i64 v20.2.2.1), .own 2066, .sv (.int .i64 v20.2.2.2.1), .sv (.int .i64 v20.2.2.2.2.1), .sv (.int .i64 v20.2.2.2.2.2.1), .sv (.int .i64 v20.2.2.2.2.2.2.1), .sv (.int .i64 v20.2.2.2.2.2.2.2.1)])), (2066, some (.row cPacket v20.2.2.2.2.2.2.2.2)), (48, none)]) ?_ ?_
        ·
         have h := h1
         refine s_reg ?_
         iterate 4 refine v_op hT hC rfl rfl rfl rfl trivial ?_
         obtain ⟨q21, hq, h⟩ := bnd_some h
         refine v_call hC [] rfl rfl rfl rfl Tryz.call18 (impl_SeqGap_ac hq) rfl (by decide) trivial rfl (.inl rfl) rfl ?_
         obtain ⟨q22, hq, h⟩ := bnd_some h
         refine v_call hC [] rfl rfl rfl rfl Tryz.call26 (impl_within_ac hq) rfl (by decide) trivial rfl (.inl rfl) rfl ?_
         refine Vc.nil ?_
         rcases sel_some h with ⟨hb15, h⟩ | ⟨hb15, h⟩
         ·
          refine s_true rfl hb15 ?_
          refine aw_region ?_
          refine v_op hT hC rfl rfl rfl rfl trivial ?_
          obtain ⟨q23, hq, h⟩ := bnd_some h
          refine v_call hC [(0, 96), (16, 1969), (2, 2066)] rfl rfl rfl rfl Tryz.call27 (impl_Queue_hold_d_ac hq) rfl (by decide) ⟨rfl, rfl, trivial⟩ rfl (.inl rfl) rfl ?_
          refine Vc.nil ?_
          injection h with h
          subst h
          refine m_norm ?_
          try dsimp only
          apply w_conv hC [(2066, 1969)]
          ·
           exact co
          ·
           rfl
          ·
           decide
          ·
           rfl
         ·
          refine s_false rfl hb15 ?_
          refine aw_skip ?_
          injection h with h
          subst h
          refine m_norm ?_
          try dsimp only
          apply w_conv hC []
          ·
           exact co
          ·
           rfl
          ·
           decide
          ·
           rfl
        refine s_reg ?_
        iterate 3 refine v_op hT hC rfl rfl rfl rfl trivial ?_
        refine Vc.nil ?_
        refine aw_ret ?_
        refine b_ret ?_
        refine t_ret ?_
        injection h with h
        subst h
        refine ends (τ := ⟨[(4, .ptr 2000000 0), (5, .sv (.int .i64 6))], [(16, some (.row cPacket v20.2.2.2.2.2.2.2.2)), (2000000, some (.box [.sv (.bool v20.1), .sv (.int .i64 v20.2.1), .sv (.int .i64 v20.2.2.1), .own 16, .sv (.int .i64 v20.2.2.2.1), .sv (.int .i64 v20.2.2.2.2.1), .sv (.int .i64 v20.2.2.2.2.2.1), .sv (.int .i64 v20.2.2.2.2.2.2.1), .sv (.int .i64 v20.2.2.2.2.2.2.2.1)]))]⟩) ?_ rfl ⟨rfl, trivial⟩
        apply w_conv hC [(16, 2066), (2000000, 64)]
        ·
         exact co
        ·
         rfl
        ·
         decide
        ·
         rfl
       ·
        refine s_false rfl hb8 ?_
        refine aw_skip ?_
        refine b_norm ?_
        refine t_norm ?_
        refine s_reg ?_
        refine v_op hT hC rfl rfl rfl rfl trivial ?_
        obtain ⟨q24, hq, h⟩ := bnd_some h
        refine v_call hC [(0, 96), (16, 2017), (2, 160)] rfl rfl rfl rfl Tryz.call27 (impl_Queue_hold_d_ac hq) rfl (by decide) ⟨rfl, rfl, trivial⟩ rfl (.inl rfl) rfl ?_
        refine Vc.nil ?_
        refine s_reg ?_
        iterate 3 refine v_op hT hC rfl rfl rfl rfl trivial ?_
        refine Vc.nil ?_
        refine aw_ret ?_
        injection h with h
        subst h
        refine ends (τ := ⟨[(4, .ptr 2000000 0), (5, .sv (.int .i64 0))], [(16, some (.row cPacket q24.Held)), (2000000, some (.box [.sv (.bool q24.Begun), .sv (.int .i64 q24.Next), .sv (.int .i64 q24.Age), .own 16, .sv (.int .i64 q24.Late), .sv (.int .i64 q24.Far), .sv (.int .i64 q24.Twice), .sv (.int .i64 q24.Over), .sv (.int .i64 q24.Lost)]))]⟩) ?_ rfl ⟨rfl, trivial⟩
        apply w_conv hC [(16, 2017), (2000000, 64)]
        ·
         exact co
        ·
         rfl
        ·
         decide
        ·
         rfl
def impl_QueueTick_res (r : (Queue × (List Packet) × Int)) : AV := .tup [.agg [.sv (.bool r.1.Begun), .sv (.int .i64 r.1.Next), .sv (.int .i64 r.1.Age), .own 16, .sv (.int .i64 r.1.Late), .sv (.int .i64 r.1.Far), .sv (.int .i64 r.1.Twice), .sv (.int .i64 r.1.Over), .sv (.int .i64 r.1.Lost)], .own 17, .sv (.int .i64 r.2.2)]
def impl_QueueTick_obs (r : (Queue × (List Packet) × Int)) : Objs := [(16, .row cPacket r.1.Held), (17, .row cPacket r.2.1)]
theorem impl_QueueTick_ac {p0 : Queue} {p1 : Int} {r : (Queue × (List Packet) × Int)} (h : impl_QueueTick p0 p1 = some r) : AC Tryz.prog 10 [.agg [.sv (.bool p0.Begun), .sv (.int .i64 p0.Next), .sv (.int .i64 p0.Age), .sv (cPacket.sv p0.Held), .sv (.int .i64 p0.Late), .sv (.int .i64 p0.Far), .sv (.int .i64 p0.Twice), .sv (.int .i64 p0.Over), .sv (.int .i64 p0.Lost)], .sv (.int .i64 p1)] [] (impl_QueueTick_res r) (impl_QueueTick_obs r) := by
 refine ac_of_body hT Tryz.func10 rfl fun C hC => ?_
 unfold impl_QueueTick at h
 refine s_reg ?_
 iterate 4 refine v_op hT hC rfl rfl rfl rfl trivial ?_
 refine Vc.nil ?_
 refine s_reg ?_
 refine v_op hT hC rfl rfl rfl rfl trivial ?_
 obtain ⟨q1, hq, h⟩ := bnd_some h
 refine v_call hC [(16, 240)] rfl rfl rfl rfl Tryz.call23 (impl_copyQueue_ac hq) rfl (by decide) trivial rfl (.inl rfl) rfl ?_
 iterate 2 refine v_op hT hC rfl rfl rfl rfl trivial ?_
 refine Vc.nil ?_
 refine s_reg ?_
 iterate 2 refine v_op hT hC rfl rfl rfl rfl trivial ?_
 refine Vc.nil ?_
 refine s_in ?_
 refine live [1, 2, 4, 7, 8] [32, 64, 112, 240, 256] (s' := [_, _, _, _, _]) (o' := [_, _, _, _, _]) rfl rfl ?_
 obtain ⟨v2, h1, h⟩ := bnd_some h
 refine aw_to ([(24, .sv (.bool v2))], []) ?_ ?_
 ·
  have h := h1
  refine aw_region ?_
  refine v_op hT hC rfl rfl rfl rfl trivial ?_
  obtain ⟨q3, hq, h⟩ := bnd_some h
  refine v_call hC [] rfl rfl rfl rfl Tryz.call13 (impl_QueueOk_ac hq) rfl (by decide) trivial rfl (.inl rfl) rfl ?_
  iterate 2 refine v_op hT hC rfl rfl rfl rfl trivial ?_
  rcases sel_some h with ⟨hb1, h⟩ | ⟨hb1, h⟩
  ·
   refine v_on hT hC rfl rfl rfl rfl (congrArg Bool.not hb1) rfl rfl rfl trivial ?_
   obtain ⟨q4, hq, h⟩ := bnd_some h
   refine v_call_on hC [] rfl rfl rfl rfl (congrArg Bool.not hb1) rfl rfl rfl Tryz.call26 (impl_within_ac hq) rfl (by decide) trivial rfl (.inl rfl) rfl ?_
   refine v_on hT hC rfl rfl rfl rfl (congrArg Bool.not hb1) rfl rfl rfl trivial ?_
   refine v_pick hC rfl rfl rfl (b := false) (congrArg Bool.not hb1) rfl rfl rfl trivial ?_
   refine Vc.nil ?_
   injection h with h
   subst h
   refine m_norm ?_
   apply w_conv hC []
   ·
    exact co
   ·
    rfl
   ·
    decide
   ·
    rfl
  ·
   refine v_off hC rfl rfl rfl rfl (congrArg Bool.not hb1) rfl rfl ?_
   refine v_off hC rfl rfl rfl rfl (congrArg Bool.not hb1) rfl rfl ?_
   refine v_off hC rfl rfl rfl rfl (congrArg Bool.not hb1) rfl rfl ?_
   refine v_pick hC rfl rfl rfl (b := true) (congrArg Bool.not hb1) rfl rfl rfl trivial ?_
   refine Vc.nil ?_
   injection h with h
   subst h
   refine m_norm ?_
   apply w_conv hC []
   ·
    exact co
   ·
    rfl
   ·
    decide
   ·
    rfl
 rcases sel_some h with ⟨hb2, h⟩ | ⟨hb2, h⟩
 ·
  refine s_true rfl hb2 ?_
  refine s_reg ?_
  iterate 5 refine v_op hT hC rfl rfl rfl rfl trivial ?_
  refine Vc.nil ?_
  refine aw_ret ?_
  refine t_ret ?_
  injection h with h
  subst h
  refine ends (τ := ⟨[(4, .ptr 2000000 0), (5, .own 17), (6, .sv (.int .i64 0))], [(16, some (.row cPacket q1.Held)), (17, some (.row cPacket ([] : List Packet))), (2000000, some (.box [.sv (.bool q1.Begun), .sv (.int .i64 q1.Next), .sv (.int .i64 q1.Age), .own 16, .sv (.int .i64 q1.Late), .sv (.int .i64 q1.Far), .sv (.int .i64 q1.Twice), .sv (.int .i64 q1.Over), .sv (.int .i64 q1.Lost)]))]⟩) ?_ rfl ⟨rfl, rfl, trivial⟩
  apply w_conv hC [(16, 240), (17, 256), (2000000, 64)]
  ·
   exact co
  ·
   rfl
  ·
   decide
  ·
   rfl
 ·
  refine s_false rfl hb2 ?_
  refine aw_skip ?_
  refine t_norm ?_
  refine s_in ?_
  refine s_reg ?_
  iterate 4 refine v_op hT hC rfl rfl rfl rfl trivial ?_
  refine Vc.nil ?_
  refine live [1, 2, 4, 7, 8, 28, 29, 30] [32, 64, 112, 240, 256] (s' := [_, _, _, _, _, _, _, _]) (o' := [_, _, _, _, _]) rfl rfl ?_
  obtain ⟨o15, hl, h⟩ := bnd_some h
  refine s_loopR (fun v8 => ([(30, .sv (.int .i64 v8))], [])) (fun v12 => ([(28, .any), (29, .any), (30, .any)], [])) (fun r => EndsA C T Tryz.f10.results.toList (impl_QueueTick_res r) (impl_QueueTick_obs r)) hl ?_ ?_ ?_ ?_
  ·
   apply w_conv hC []
   ·
    exact co
   ·
    rfl
   ·
    decide
   ·
    rfl
  ·
   intro v8 s hs
   have h := hs
   unfold impl_QueueTick_l2 at h
   refine s_reg ?_
   refine v_op hT hC rfl rfl rfl rfl trivial ?_
   refine Vc.nil ?_
   refine s_in ?_
   rcases sel_some h with ⟨hb9, h⟩ | ⟨hb9, h⟩
   ·
    refine s_true rfl hb9 ?_
    refine aw_skip ?_
    refine t_norm ?_
    refine s_in ?_
    refine s_block ?_
    refine s_reg ?_
    refine v_op hT hC rfl rfl rfl rfl trivial ?_
    obtain ⟨hq, h⟩ := req_some h
    refine v_op hT hC rfl rfl rfl rfl hq ?_
    obtain ⟨hq, h⟩ := req_some h
    refine v_op hT hC rfl rfl rfl rfl hq ?_
    iterate 3 refine v_op hT hC rfl rfl rfl rfl trivial ?_
    refine Vc.nil ?_
    refine s_in ?_
    refine s_draw hm ?_
    iterate 5 refine v_op hT hC rfl rfl rfl rfl trivial ?_
    obtain ⟨q13, hq, h⟩ := bnd_some h
    refine v_call hC [] rfl rfl rfl rfl Tryz.call12 (impl_SeqPlus_ac hq) rfl (by decide) trivial rfl (.inl rfl) rfl ?_
    refine v_op hT hC rfl rfl rfl rfl trivial ?_
    refine Vc.nil ⟨by kernel_rfl, ?_⟩
    rcases sel_some h with ⟨hb10, h⟩ | ⟨hb10, h⟩
    ·
     refine s_true rfl hb10 ?_
     refine aw_exit ?_
     refine t_exit ?_
     refine b_other rfl ?_
     refine t_exit ?_
     injection h with h
     subst h
     refine r_exit ?_
     refine o_both ?_
     apply w_conv hC []
     ·
      exact co
     ·
      rfl
     ·
      decide
     ·
      rfl
    ·
     refine s_false rfl hb10 ?_
     refine aw_skip ?_
     refine t_norm ?_
     refine s_reg ?_
     iterate 2 refine v_op hT hC rfl rfl rfl rfl trivial ?_
     refine Vc.nil ?_
     rcases sel_some h with ⟨hb11, h⟩ | ⟨hb11, h⟩
     ·
      refine s_true rfl hb11 ?_
      refine s_reg ?_
      iterate 5 refine v_op hT hC rfl rfl rfl rfl trivial ?_
      obtain ⟨hq, h⟩ := req_some h
      refine v_op hT hC rfl rfl rfl rfl hq ?_
      obtain ⟨hq, h⟩ := req_some h
      refine v_op hT hC rfl rfl rfl rfl ⟨⟨hq.1, fun _ _ => rfl⟩, by rw [cPacket_id]; exact hq.2⟩ ?_
      rw [cPacket_id]
      refine v_op hT hC rfl rfl rfl rfl trivial ?_
      refine Vc.nil ?_
      refine s_reg ?_
      iterate 5 refine v_op hT hC rfl rfl rfl rfl trivial ?_
      obtain ⟨hq, h⟩ := req_some h
      refine v_op hT hC rfl rfl rfl rfl hq ?_
      obtain ⟨hq, h⟩ := req_some h
      refine v_op hT hC rfl rfl rfl rfl ⟨⟨hq.1, fun _ _ => rfl⟩, by rw [cPacket_id]; exact hq.2⟩ ?_
      rw [cPacket_id]
      iterate 2 refine v_op hT hC rfl rfl rfl rfl trivial ?_
      refine Vc.nil ?_
      refine s_reg ?_
      iterate 2 refine v_op hT hC rfl rfl rfl rfl trivial ?_
      obtain ⟨q14, hq, h⟩ := bnd_some h
      refine v_call hC [] rfl rfl rfl rfl Tryz.call12 (impl_SeqPlus_ac hq) rfl (by decide) trivial rfl (.inl rfl) rfl ?_
      iterate 2 refine v_op hT hC rfl rfl rfl rfl trivial ?_
      refine Vc.nil ?_
      refine s_reg ?_
      iterate 2 refine v_op hT hC rfl rfl rfl rfl trivial ?_
      refine Vc.nil ?_
      refine s_reg ?_
      iterate 5 refine v_op hT hC rfl rfl rfl rfl trivial ?_
      refine Vc.nil ?_
      refine aw_ret ?_
      refine b_ret ?_
      refine t_ret ?_
      injection h with h
      subst h
      refine r_ret ?_
      refine o_ret ?_
      refine ends (τ := ⟨[(4, .ptr 2000000 0), (5, .own 17), (6, .sv (.int .i64 1))], [(16, some (.row cPacket (([] : List Packet) ++ ((q1.Held.drop ((wrapK .i64 (v8 + 1)).toNat)).take ((q1.Held.length : Int).toNat - (wrapK .i64 (v8 + 1)).toNat))))), (17, some (.row cPacket (([] : List Packet) ++ ((q1.Held.drop ((0 : Int).toNat)).take ((wrapK .i64 (v8 + 1)).toNat - (0 : Int).toNat))))), (2000000, some (.box [.sv (.bool q1.Begun), .sv (.int .i64 q14), .sv (.int .i64 0), .own 16, .sv (.int .i64 q1.Late), .sv (.int .i64 q1.Far), .sv (.int .i64 q1.Twice), .sv (.int .i64 q1.Over), .sv (.int .i64 q1.Lost)]))]⟩) ?_ rfl ⟨rfl, rfl, trivial⟩
      apply w_conv hC [(16, 912), (17, 800), (2000000, 64)]
      ·
       exact co
      ·
       rfl
      ·
       decide
      ·
       rfl
     ·
      refine s_false rfl hb11 ?_
      refine aw_skip ?_
      refine b_norm ?_
      refine t_norm ?_
      refine aw_region ?_
      iterate 2 refine v_op hT hC rfl rfl rfl rfl trivial ?_
      refine Vc.nil ?_
      injection h with h
      subst h
      refine r_go ?_
      apply w_conv hC []
      ·
       exact co
      ·
       rfl
      ·
       decide
      ·
       rfl
   ·
    refine s_false rfl hb9 ?_
    refine aw_exit ?_
    refine t_exit ?_
    injection h with h
    subst h
    refine r_exit ?_
    refine o_both ?_
    apply w_conv hC []
    ·
     exact co
    ·
     rfl
    ·
     decide
    ·
     rfl
  ·
   intro v12 e
   subst e
   refine t_norm ?_
   refine s_in ?_
   refine s_block ?_
   refine s_reg ?_
   iterate 5 refine v_op hT hC rfl rfl rfl rfl trivial ?_
   refine Vc.nil ?_
   rcases sel_some h with ⟨hb12, h⟩ | ⟨hb12, h⟩
   ·
    refine s_true rfl hb12 ?_
    refine s_reg ?_
    iterate 2 refine v_op hT hC rfl rfl rfl rfl trivial ?_
    refine Vc.nil ?_
    refine s_reg ?_
    iterate 5 refine v_op hT hC rfl rfl rfl rfl trivial ?_
    refine Vc.nil ?_
    refine aw_ret ?_
    refine b_ret ?_
    refine t_ret ?_
    injection h with h
    subst h
    refine ends (τ := ⟨[(4, .ptr 2000000 0), (5, .own 17), (6, .sv (.int .i64 0))], [(16, some (.row cPacket q1.Held)), (17, some (.row cPacket ([] : List Packet))), (2000000, some (.box [.sv (.bool q1.Begun), .sv (.int .i64 q1.Next), .sv (.int .i64 0), .own 16, .sv (.int .i64 q1.Late), .sv (.int .i64 q1.Far), .sv (.int .i64 q1.Twice), .sv (.int .i64 q1.Over), .sv (.int .i64 q1.Lost)]))]⟩) ?_ rfl ⟨rfl, rfl, trivial⟩
    apply w_conv hC [(16, 240), (17, 256), (2000000, 64)]
    ·
     exact co
    ·
     rfl
    ·
     decide
    ·
     rfl
   ·
    refine s_false rfl hb12 ?_
    refine s_reg ?_
    iterate 5 refine v_op hT hC rfl rfl rfl rfl trivial ?_
    refine Vc.nil ?_
    rcases sel_some h with ⟨hb13, h⟩ | ⟨hb13, h⟩
    ·
     refine s_true rfl hb13 ?_
     refine s_reg ?_
     iterate 5 refine v_op hT hC rfl rfl rfl rfl trivial ?_
     refine Vc.nil ?_
     refine s_reg ?_
     iterate 5 refine v_op hT hC rfl rfl rfl rfl trivial ?_
     refine Vc.nil ?_
     refine aw_ret ?_
     refine b_ret ?_
     refine t_ret ?_
     injection h with h
     subst h
     refine ends (τ := ⟨[(4, .ptr 2000000 0), (5, .own 17), (6, .sv (.int .i64 0))], [(16, some (.row cPacket q1.Held)), (17, some (.row cPacket ([] : List Packet))), (2000000, some (.box [.sv (.bool q1.Begun), .sv (.int .i64 q1.Next), .sv (.int .i64 (wrapK .i64 (q1.Age + 1))), .own 16, .sv (.int .i64 q1.Late), .sv (.int .i64 q1.Far), .sv (.int .i64 q1.Twice), .sv (.int .i64 q1.Over), .sv (.int .i64 q1.Lost)]))]⟩) ?_ rfl ⟨rfl, rfl, trivial⟩
     apply w_conv hC [(16, 240), (17, 256), (2000000, 64)]
     ·
      exact co
     ·
      rfl
     ·
      decide
     ·
      rfl
    ·
     refine s_false rfl hb13 ?_
     refine aw_skip ?_
     refine b_norm ?_
     refine t_norm ?_
     refine s_reg ?_
     iterate 2 refine v_op hT hC rfl rfl rfl rfl trivial ?_
     obtain ⟨q16, hq, h⟩ := bnd_some h
     refine v_call hC [] rfl rfl rfl rfl Tryz.call25 (impl_counted_ac hq) rfl (by decide) trivial rfl (.inl rfl) rfl ?_
     iterate 2 refine v_op hT hC rfl rfl rfl rfl trivial ?_
     refine Vc.nil ?_
     refine s_reg ?_
     iterate 2 refine v_op hT hC rfl rfl rfl rfl trivial ?_
     refine Vc.nil ?_
     refine s_reg ?_
     iterate 6 refine v_op hT hC rfl rfl rfl rfl trivial ?_
     obtain ⟨hq, h⟩ := req_some h
     refine v_op hT hC rfl rfl rfl rfl hq ?_
     iterate 2 refine v_op hT hC rfl rfl rfl rfl trivial ?_
     obtain ⟨q17, hq, h⟩ := bnd_some h
     refine v_call hC [] rfl rfl rfl rfl Tryz.call12 (impl_SeqPlus_ac hq) rfl (by decide) trivial rfl (.inl rfl) rfl ?_
     iterate 2 refine v_op hT hC rfl rfl rfl rfl trivial ?_
     refine Vc.nil ?_
     refine s_reg ?_
     iterate 3 refine v_op hT hC rfl rfl rfl rfl trivial ?_
     refine Vc.nil ?_
     refine s_in ?_
     refine s_reg ?_
     iterate 4 refine v_op hT hC rfl rfl rfl rfl trivial ?_
     refine Vc.nil ?_
     refine live [2, 4, 7, 8, 105, 106, 107] [32, 64, 112, 256] (s' := [_, _, _, _, _, _, _]) (o' := [_, _, _, _]) rfl rfl ?_
     obtain ⟨v23, hl, h⟩ := bnd_some h
     refine s_loop (fun v20 => ([(107, .sv (.int .i64 v20))], [])) (fun v23 => ([(2, .any), (8, .any), (105, .any), (106, .any), (107, .any)], [(112, some (.box [.sv (.bool q1.Begun), .sv (.int .i64 v23.1), .sv (.int .i64 0), .own 256, .sv (.int .i64 q1.Late), .sv (.int .i64 q1.Far), .sv (.int .i64 q1.Twice), .sv (.int .i64 q1.Over), .sv (.int .i64 q16)])), (256, some (.row cPacket v23.2)), (32, none)])) hl ?_ ?_ ?_
     ·
      apply w_conv hC []
      ·
       exact co
      ·
       rfl
      ·
       decide
      ·
       rfl
     ·
      intro v20 s hs
      have h := hs
      unfold impl_QueueTick_l4 at h
      refine s_reg ?_
      refine v_op hT hC rfl rfl rfl rfl trivial ?_
      refine Vc.nil ?_
      refine s_in ?_
      rcases sel_some h with ⟨hb20, h⟩ | ⟨hb20, h⟩
      ·
       refine s_true rfl hb20 ?_
       refine aw_skip ?_
       refine t_norm ?_
       refine s_in ?_
       refine s_block ?_
       refine s_reg ?_
       refine v_op hT hC rfl rfl rfl rfl trivial ?_
       obtain ⟨hq, h⟩ := req_some h
       refine v_op hT hC rfl rfl rfl rfl hq ?_
       iterate 4 refine v_op hT hC rfl rfl rfl rfl trivial ?_
       refine Vc.nil ?_
       refine live [2, 4, 7, 8, 12, 13, 105, 106, 107] [32, 64, 112, 208, 256] (s' := [_, _, _, _, _, _, _, _, _]) (o' := [_, _, _, _, _]) rfl rfl ?_
       obtain ⟨v24, h1, h⟩ := bnd_some h
       refine aw_to ([(120, .sv (.bool v24))], []) ?_ ?_
       ·
        have h := h1
        refine aw_region ?_
        iterate 3 refine v_op hT hC rfl rfl rfl rfl trivial ?_
        rcases sel_some h with ⟨hb21, h⟩ | ⟨hb21, h⟩
        ·
         iterate 5 refine v_on hT hC rfl rfl rfl rfl hb21 rfl rfl rfl trivial ?_
         refine v_pick hC rfl rfl rfl (b := true) hb21 rfl rfl rfl trivial ?_
         refine Vc.nil ?_
         injection h with h
         subst h
         refine m_norm ?_
         apply w_conv hC []
         ·
          exact co
         ·
          rfl
         ·
          decide
         ·
          rfl
        ·
         refine v_off hC rfl rfl rfl rfl hb21 rfl rfl ?_
         refine v_off hC rfl rfl rfl rfl hb21 rfl rfl ?_
         refine v_off hC rfl rfl rfl rfl hb21 rfl rfl ?_
         refine v_off hC rfl rfl rfl rfl hb21 rfl rfl ?_
         refine v_off hC rfl rfl rfl rfl hb21 rfl rfl ?_
         refine v_pick hC rfl rfl rfl (b := false) hb21 rfl rfl rfl trivial ?_
         refine Vc.nil ?_
         injection h with h
         subst h
         refine m_norm ?_
         apply w_conv hC []
         ·
          exact co
         ·
          rfl
         ·
          decide
         ·
          rfl
       rcases sel_some h with ⟨hb22, h⟩ | ⟨hb22, h⟩
       ·
        refine s_true rfl hb22 ?_
        refine s_reg ?_
        iterate 4 refine v_op hT hC rfl rfl rfl rfl trivial ?_
        refine Vc.nil ?_
        refine s_reg ?_
        iterate 4 refine v_op hT hC rfl rfl rfl rfl trivial ?_
        obtain ⟨hq, h⟩ := req_some h
        refine v_op hT hC rfl rfl rfl rfl hq ?_
        obtain ⟨hq, h⟩ := req_some h
        refine v_op hT hC rfl rfl rfl rfl ⟨fun _ _ => rfl, by rw [cPacket_id]; exact hq⟩ ?_
        rw [cPacket_id]
        iterate 2 refine v_op hT hC rfl rfl rfl rfl trivial ?_
        refine Vc.nil ?_
        refine aw_exit ?_
        refine b_other rfl ?_
        refine t_exit ?_
        injection h with h
        subst h
        refine r_exit ?_
        refine o_out ?_
        try dsimp only
        apply w_conv hC [(256, 2064)]
        ·
         exact co
        ·
         rfl
        ·
         decide
        ·
         rfl
       ·
        refine s_false rfl hb22 ?_
        refine aw_skip ?_
        refine b_norm ?_
        refine t_norm ?_
        refine aw_region ?_
        iterate 2 refine v_op hT hC rfl rfl rfl rfl trivial ?_
        refine Vc.nil ?_
        injection h with h
        subst h
        refine r_go ?_
        apply w_conv hC []
        ·
         exact co
        ·
         rfl
        ·
         decide
        ·
         rfl
      ·
       refine s_false rfl hb20 ?_
       refine aw_exit ?_
       refine t_exit ?_
       injection h with h
       subst h
       refine r_exit ?_
       refine o_out ?_
       try dsimp only
       apply w_conv hC []
       ·
        exact co
       ·
        rfl
       ·
        decide
       ·
        rfl
     refine t_norm ?_
     refine s_reg ?_
     iterate 5 refine v_op hT hC rfl rfl rfl rfl trivial ?_
     refine Vc.nil ?_
     refine aw_ret ?_
     injection h with h
     subst h
     refine ends (τ := ⟨[(4, .ptr 2000000 0), (5, .own 17), (6, .sv (.int .i64 2))], [(16, some (.row cPacket v23.2)), (17, some (.row cPacket ([] : List Packet))), (2000000, some (.box [.sv (.bool q1.Begun), .sv (.int .i64 v23.1), .sv (.int .i64 0), .own 16, .sv (.int .i64 q1.Late), .sv (.int .i64 q1.Far), .sv (.int .i64 q1.Twice), .sv (.int .i64 q1.Over), .sv (.int .i64 q16)]))]⟩) ?_ rfl ⟨rfl, rfl, trivial⟩
     apply w_conv hC [(16, 256), (17, 2128), (2000000, 64)]
     ·
      exact co
     ·
      rfl
     ·
      decide
     ·
      rfl
  ·
   intro r' σ' e hE
   subst e
   injection h with h
   subst h
   refine t_ret ?_
   exact hE
def laws_samePackets_res (r : Bool) : AV := .sv (.bool r)
def laws_samePackets_obs (r : Bool) : Objs := []
theorem laws_samePackets_ac {p0 : (List Packet)} {p1 : (List Packet)} {r : Bool} (h : laws_samePackets p0 p1 = some r) : AC Tryz.prog 11 [.sv (cPacket.sv p0), .sv (cPacket.sv p1)] [] (laws_samePackets_res r) (laws_samePackets_obs r) := by
 refine ac_of_body hT Tryz.func11 rfl fun C hC => ?_
 unfold laws_samePackets at h
 refine s_reg ?_
 refine v_op hT hC rfl rfl rfl rfl trivial ?_
 refine Vc.nil ?_
 refine s_in ?_
 refine s_reg ?_
 iterate 5 refine v_op hT hC rfl rfl rfl rfl trivial ?_
 refine Vc.nil ?_
 rcases sel_some h with ⟨hb1, h⟩ | ⟨hb1, h⟩
 ·
  refine s_true rfl hb1 ?_
  refine s_reg ?_
  refine v_op hT hC rfl rfl rfl rfl trivial ?_
  refine Vc.nil ?_
  refine aw_ret ?_
  refine t_ret ?_
  injection h with h
  subst h
  exact ends (Weak.refl _) rfl trivial
 ·
  refine s_false rfl hb1 ?_
  refine aw_skip ?_
  refine t_norm ?_
  refine s_in ?_
  refine s_reg ?_
  refine v_op hT hC rfl rfl rfl rfl trivial ?_
  refine Vc.nil ?_
  refine live [0, 1, 5] [] (s' := [_, _, _]) (o' := []) rfl rfl ?_
  obtain ⟨o5, hl, h⟩ := bnd_some h
  refine s_loopR (fun v2 => ([(5, .sv (.int .i64 v2))], [])) (fun v4 => ([(0, .any), (1, .any), (5, .any)], [])) (fun r => EndsA C T Tryz.f11.results.toList (laws_samePackets_res r) (laws_samePackets_obs r)) hl ?_ ?_ ?_ ?_
  ·
   apply w_conv hC []
   ·
    exact co
   ·
    rfl
   ·
    decide
   ·
    rfl
  ·
   intro v2 s hs
   have h := hs
   unfold laws_samePackets_l2 at h
   refine s_in ?_
   refine s_reg ?_
   iterate 4 refine v_op hT hC rfl rfl rfl rfl trivial ?_
   refine Vc.nil ?_
   rcases sel_some h with ⟨hb6, h⟩ | ⟨hb6, h⟩
   ·
    refine s_true rfl hb6 ?_
    refine aw_skip ?_
    refine t_norm ?_
    refine s_in ?_
    refine s_block ?_
    refine s_draw hm ?_
    iterate 2 refine v_op hT hC rfl rfl rfl rfl trivial ?_
    obtain ⟨hq, h⟩ := req_some h
    refine v_op hT hC rfl rfl rfl rfl hq ?_
    iterate 3 refine v_op hT hC rfl rfl rfl rfl trivial ?_
    obtain ⟨hq, h⟩ := req_some h
    refine v_op hT hC rfl rfl rfl rfl hq ?_
    refine v_op hT hC rfl rfl rfl rfl trivial ?_
    refine v_eq hC rfl rfl rfl rfl eq_t33 rfl rfl ?_
    refine Vc.nil ⟨by kernel_rfl, ?_⟩
    rcases sel_some h with ⟨hb7, h⟩ | ⟨hb7, h⟩
    ·
     refine s_true rfl hb7 ?_
     refine s_reg ?_
     refine v_op hT hC rfl rfl rfl rfl trivial ?_
     refine Vc.nil ?_
     refine aw_ret ?_
     refine b_ret ?_
     refine t_ret ?_
     injection h with h
     subst h
     refine r_ret ?_
     refine o_ret ?_
     exact ends (Weak.refl _) rfl trivial
    ·
     refine s_false rfl hb7 ?_
     refine aw_skip ?_
     refine b_norm ?_
     refine t_norm ?_
     refine aw_region ?_
     iterate 3 refine v_op hT hC rfl rfl rfl rfl trivial ?_
     refine Vc.nil ?_
     injection h with h
     subst h
     refine r_go ?_
     apply w_conv hC []
     ·
      exact co
     ·
      rfl
     ·
      decide
     ·
      rfl
   ·
    refine s_false rfl hb6 ?_
    refine aw_exit ?_
    refine t_exit ?_
    injection h with h
    subst h
    refine r_exit ?_
    refine o_both ?_
    apply w_conv hC []
    ·
     exact co
    ·
     rfl
    ·
     decide
    ·
     rfl
  ·
   intro v4 e
   subst e
   refine t_norm ?_
   refine s_reg ?_
   refine v_op hT hC rfl rfl rfl rfl trivial ?_
   refine Vc.nil ?_
   refine aw_ret ?_
   injection h with h
   subst h
   exact ends (Weak.refl _) rfl trivial
  ·
   intro r' σ' e hE
   subst e
   injection h with h
   subst h
   refine t_ret ?_
   exact hE
def laws_FnInOrder_res (r : Bool) : AV := .sv (.bool r)
def laws_FnInOrder_obs (r : Bool) : Objs := []
theorem laws_FnInOrder_ac {p0 : (List Int)} {r : Bool} (h : laws_FnInOrder p0 = some r) : AC Tryz.prog 3 [.sv (.ints .u8 p0)] [] (laws_FnInOrder_res r) (laws_FnInOrder_obs r) := by
 refine ac_of_body hT Tryz.func3 rfl fun C hC => ?_
 unfold laws_FnInOrder at h
 refine s_reg ?_
 refine v_op hT hC rfl rfl rfl rfl trivial ?_
 refine Vc.nil ?_
 refine s_in ?_
 refine s_reg ?_
 refine v_op hT hC rfl rfl rfl rfl trivial ?_
 obtain ⟨q1, hq, h⟩ := bnd_some h
 refine v_call hC [] rfl rfl rfl rfl Tryz.call5 (laws_big_ac hq) rfl (by decide) trivial rfl (.inl rfl) rfl ?_
 refine Vc.nil ?_
 rcases sel_some h with ⟨hb1, h⟩ | ⟨hb1, h⟩
 ·
  refine s_true rfl hb1 ?_
  refine s_reg ?_
  refine v_op hT hC rfl rfl rfl rfl trivial ?_
  refine Vc.nil ?_
  refine aw_ret ?_
  refine t_ret ?_
  injection h with h
  subst h
  exact ends (Weak.refl _) rfl trivial
 ·
  refine s_false rfl hb1 ?_
  refine aw_skip ?_
  refine t_norm ?_
  refine s_reg ?_
  refine v_op hT hC rfl rfl rfl rfl trivial ?_
  obtain ⟨q2, hq, h⟩ := bnd_some h
  refine v_call hC [(16, 288)] rfl rfl rfl rfl Tryz.call6 (spec_DrawPicture_ac hq) rfl (by decide) trivial rfl (.inl rfl) rfl ?_
  refine v_op hT hC rfl rfl rfl rfl trivial ?_
  refine Vc.nil ?_
  refine s_reg ?_
  refine v_op hT hC rfl rfl rfl rfl trivial ?_
  obtain ⟨q3, hq, h⟩ := bnd_some h
  refine v_call hC [(16, 320)] rfl rfl rfl rfl Tryz.call7 (spec_DrawPlaces_ac hq) rfl (by decide) trivial rfl (.inl rfl) rfl ?_
  refine v_op hT hC rfl rfl rfl rfl trivial ?_
  refine Vc.nil ?_
  refine s_in ?_
  refine s_reg ?_
  iterate 3 refine v_op hT hC rfl rfl rfl rfl trivial ?_
  refine Vc.nil ?_
  rcases sel_some h with ⟨hb2, h⟩ | ⟨hb2, h⟩
  ·
   refine s_true rfl hb2 ?_
   refine s_reg ?_
   refine v_op hT hC rfl rfl rfl rfl trivial ?_
   refine Vc.nil ?_
   refine aw_ret ?_
   refine t_ret ?_
   injection h with h
   subst h
   exact ends (Weak.refl _) rfl trivial
  ·
   refine s_false rfl hb2 ?_
   refine aw_skip ?_
   refine t_norm ?_
   refine s_reg ?_
   iterate 2 refine v_op hT hC rfl rfl rfl rfl trivial ?_
   obtain ⟨hq, h⟩ := req_some h
   refine v_op hT hC rfl rfl rfl rfl hq ?_
   obtain ⟨hq, h⟩ := req_some h
   refine v_op hT hC rfl rfl rfl rfl hq ?_
   obtain ⟨q4, hq, h⟩ := bnd_some h
   refine v_call hC [(16, 464)] rfl rfl rfl rfl Tryz.call8 (impl_QueueIn_ac hq) rfl (by decide) trivial rfl (.inl rfl) rfl ?_
   iterate 6 refine v_op hT hC rfl rfl rfl rfl trivial ?_
   refine Vc.nil ?_
   refine s_in ?_
   refine s_reg ?_
   iterate 2 refine v_op hT hC rfl rfl rfl rfl trivial ?_
   refine Vc.nil ?_
   rcases sel_some h with ⟨hb3, h⟩ | ⟨hb3, h⟩
   ·
    refine s_true rfl hb3 ?_
    refine s_reg ?_
    refine v_op hT hC rfl rfl rfl rfl trivial ?_
    refine Vc.nil ?_
    refine aw_ret ?_
    refine t_ret ?_
    injection h with h
    subst h
    exact ends (Weak.refl _) rfl trivial
   ·
    refine s_false rfl hb3 ?_
    refine aw_skip ?_
    refine t_norm ?_
    refine s_reg ?_
    iterate 2 refine v_op hT hC rfl rfl rfl rfl trivial ?_
    obtain ⟨hq, h⟩ := req_some h
    refine v_op hT hC rfl rfl rfl rfl hq ?_
    obtain ⟨hq, h⟩ := req_some h
    refine v_op hT hC rfl rfl rfl rfl ⟨⟨hq.1, fun _ _ => rfl⟩, by rw [cPacket_id]; exact hq.2⟩ ?_
    rw [cPacket_id]
    refine v_op hT hC rfl rfl rfl rfl trivial ?_
    refine Vc.nil ?_
    refine s_in ?_
    refine s_reg ?_
    refine v_op hT hC rfl rfl rfl rfl trivial ?_
    refine Vc.nil ?_
    refine live [3, 4, 5, 7, 8] [80, 288, 320, 464, 592] (s' := [_, _, _, _, _]) (o' := [_, _, _, _, _]) rfl rfl ?_
    obtain ⟨o18, hl, h⟩ := bnd_some h
    refine s_loopR (fun v9 => ([(8, .sv (.int .i64 v9.1))], [(80, some (.box [.sv (.bool v9.2.1), .sv (.int .i64 v9.2.2.1), .sv (.int .i64 v9.2.2.2.1), .own 464, .sv (.int .i64 v9.2.2.2.2.1), .sv (.int .i64 v9.2.2.2.2.2.1), .sv (.int .i64 v9.2.2.2.2.2.2.1), .sv (.int .i64 v9.2.2.2.2.2.2.2.1), .sv (.int .i64 v9.2.2.2.2.2.2.2.2.1)])), (464, some (.row cPacket v9.2.2.2.2.2.2.2.2.2.2)), (592, some (.row cPacket v9.2.2.2.2.2.2.2.2.2.1))])) (fun v14 => ([(4, .any), (7, .any), (8, .any)], [(80, some (.box [.sv (.bool v14.1), .sv (.int .i64 v14.2.1), .sv (.int .i64 v14.2.2.1), .own 464, .sv (.int .i64 v14.2.2.2.1), .sv (.int .i64 v14.2.2.2.2.1), .sv (.int .i64 v14.2.2.2.2.2.1), .sv (.int .i64 v14.2.2.2.2.2.2.1), .sv (.int .i64 v14.2.2.2.2.2.2.2.1)])), (464, some (.row cPacket v14.2.2.2.2.2.2.2.2)), (320, none), (592, none)])) (fun r => EndsA C T Tryz.f3.results.toList (laws_FnInOrder_res r) (laws_FnInOrder_obs r)) hl ?_ ?_ ?_ ?_
    ·
     try dsimp only
     apply w_conv hC []
     ·
      exact co
     ·
      rfl
     ·
      decide
     ·
      rfl
    ·
     intro v9 s hs
     have h := hs
     unfold laws_FnInOrder_l2 at h
     refine s_in ?_
     refine s_reg ?_
     iterate 3 refine v_op hT hC rfl rfl rfl rfl trivial ?_
     refine Vc.nil ?_
     rcases sel_some h with ⟨hb10, h⟩ | ⟨hb10, h⟩
     ·
      refine s_true rfl hb10 ?_
      refine aw_skip ?_
      refine t_norm ?_
      refine s_in ?_
      refine s_block ?_
      refine s_reg ?_
      iterate 2 refine v_op hT hC rfl rfl rfl rfl trivial ?_
      obtain ⟨hq, h⟩ := req_some h
      refine v_op hT hC rfl rfl rfl rfl hq ?_
      obtain ⟨hq, h⟩ := req_some h
      refine v_op hT hC rfl rfl rfl rfl hq ?_
      obtain ⟨hq, h⟩ := req_some h
      refine v_op hT hC rfl rfl rfl rfl hq ?_
      iterate 2 refine v_op hT hC rfl rfl rfl rfl trivial ?_
      obtain ⟨hq, h⟩ := req_some h
      refine v_op hT hC rfl rfl rfl rfl hq ?_
      refine v_op hT hC rfl rfl rfl rfl trivial ?_
      refine Vc.nil ?_
      refine s_draw hm ?_
      iterate 3 refine v_op hT hC rfl rfl rfl rfl trivial ?_
      obtain ⟨hq, h⟩ := req_some h
      refine v_op hT hC rfl rfl rfl rfl hq ?_
      obtain ⟨hq, h⟩ := req_some h
      refine v_op hT hC rfl rfl rfl rfl hq ?_
      obtain ⟨q15, hq, h⟩ := bnd_some h
      refine v_call hC [(16, 912)] rfl rfl rfl rfl Tryz.call8 (impl_QueueIn_ac hq) rfl (by decide) trivial rfl (.inr ⟨rfl, ⟨fun _ => rfl, trivial⟩⟩) rfl ?_
      iterate 6 refine v_op hT hC rfl rfl rfl rfl trivial ?_
      refine Vc.nil ⟨by kernel_rfl, ?_⟩
      refine s_in ?_
      refine live [3, 4, 5, 7, 8, 9, 10, 11] [80, 160, 288, 320, 464, 592, 912] (s' := [_, _, _, _, _, _, _, _]) (o' := [_, _, _, _, _, _, _]) rfl rfl ?_
      obtain ⟨v16, h1, h⟩ := bnd_some h
      refine aw_to ([(71, .sv (.bool v16)), (11, .any)], []) ?_ ?_
      ·
       have h := h1
       refine aw_draw hm ?_
       iterate 3 refine v_op hT hC rfl rfl rfl rfl trivial ?_
       rcases sel_some h with ⟨hb11, h⟩ | ⟨hb11, h⟩
       ·
        refine v_off hC rfl rfl rfl rfl hb11 rfl rfl ?_
        refine v_off hC rfl rfl rfl rfl hb11 rfl rfl ?_
        refine v_off hC rfl rfl rfl rfl hb11 rfl rfl ?_
        refine v_off hC rfl rfl rfl rfl hb11 rfl rfl ?_
        refine v_off hC rfl rfl rfl rfl hb11 rfl rfl ?_
        refine v_off hC rfl rfl rfl rfl hb11 rfl rfl ?_
        refine v_off hC rfl rfl rfl rfl hb11 rfl rfl ?_
        refine v_off hC rfl rfl rfl rfl hb11 rfl rfl ?_
        refine v_pick hC rfl rfl rfl (b := true) hb11 rfl rfl rfl trivial ?_
        refine Vc.nil ⟨by kernel_rfl, ?_⟩
        injection h with h
        subst h
        refine m_norm ?_
        apply w_conv hC []
        ·
         exact co
        ·
         rfl
        ·
         decide
        ·
         rfl
       ·
        iterate 3 refine v_on hT hC rfl rfl rfl rfl hb11 rfl rfl rfl trivial ?_
        obtain ⟨hq, h⟩ := req_some h
        refine v_on hT hC rfl rfl rfl rfl hb11 rfl rfl rfl hq ?_
        refine v_on hT hC rfl rfl rfl rfl hb11 rfl rfl rfl trivial ?_
        obtain ⟨hq, h⟩ := req_some h
        refine v_on hT hC rfl rfl rfl rfl hb11 rfl rfl rfl hq ?_
        obtain ⟨q17, hq, h⟩ := bnd_some h
        refine v_call_on hC [] rfl rfl rfl rfl hb11 rfl rfl rfl Tryz.call9 (impl_QueueHas_ac hq) rfl (by decide) trivial rfl (.inr ⟨rfl, trivial⟩) rfl ?_
        refine v_on hT hC rfl rfl rfl rfl hb11 rfl rfl rfl trivial ?_
        refine v_pick hC rfl rfl rfl (b := false) hb11 rfl rfl rfl trivial ?_
        refine Vc.nil ⟨by kernel_rfl, ?_⟩
        injection h with h
        subst h
        refine m_norm ?_
        apply w_conv hC []
        ·
         exact co
        ·
         rfl
        ·
         decide
        ·
         rfl
      rcases sel_some h with ⟨hb12, h⟩ | ⟨hb12, h⟩
      ·
       refine s_true rfl hb12 ?_
       refine s_reg ?_
       refine v_op hT hC rfl rfl rfl rfl trivial ?_
       refine Vc.nil ?_
       refine aw_ret ?_
       refine t_ret ?_
       refine b_ret ?_
       refine t_ret ?_
       injection h with h
       subst h
       refine r_ret ?_
       refine o_ret ?_
       exact ends (Weak.refl _) rfl trivial
      ·
       refine s_false rfl hb12 ?_
       refine aw_skip ?_
       refine t_norm ?_
       refine s_reg ?_
       iterate 2 refine v_op hT hC rfl rfl rfl rfl trivial ?_
       refine Vc.nil ?_
       refine aw_draw hm ?_
       iterate 3 refine v_op hT hC rfl rfl rfl rfl trivial ?_
       obtain ⟨hq, h⟩ := req_some h
       refine v_op hT hC rfl rfl rfl rfl hq ?_
       obtain ⟨hq, h⟩ := req_some h
       refine v_op hT hC rfl rfl rfl rfl ⟨⟨hq.1, fun _ _ => rfl⟩, by rw [cPacket_id]; exact hq.2⟩ ?_
       rw [cPacket_id]
       iterate 3 refine v_op hT hC rfl rfl rfl rfl trivial ?_
       obtain ⟨hq, h⟩ := req_some h
       refine v_op hT hC rfl rfl rfl rfl hq ?_
       obtain ⟨hq, h⟩ := req_some h
       refine v_op hT hC rfl rfl rfl rfl ⟨⟨hq.1, fun _ _ => rfl⟩, by rw [cPacket_id]; exact hq.2⟩ ?_
       rw [cPacket_id]
       refine v_op hT hC rfl rfl rfl rfl trivial ?_
       refine Vc.nil ⟨by kernel_rfl, ?_⟩
       refine b_norm ?_
       refine t_norm ?_
       refine aw_region ?_
       iterate 3 refine v_op hT hC rfl rfl rfl rfl trivial ?_
       refine Vc.nil ?_
       injection h with h
       subst h
       refine r_go ?_
       try dsimp only
       apply w_conv hC [(464, 912), (592, 1312)]
       ·
        exact co
       ·
        rfl
       ·
        decide
       ·
        rfl
     ·
      refine s_false rfl hb10 ?_
      refine aw_exit ?_
      refine t_exit ?_
      injection h with h
      subst h
      refine r_exit ?_
      refine o_both ?_
      try dsimp only
      apply w_conv hC []
      ·
       exact co
      ·
       rfl
      ·
       decide
      ·
       rfl
    ·
     intro v14 e
     subst e
     refine t_norm ?_
     refine s_reg ?_
     refine v_op hT hC rfl rfl rfl rfl trivial ?_
     obtain ⟨q19, hq, h⟩ := bnd_some h
     refine v_call hC [(16, 1360), (17, 1361)] rfl rfl rfl rfl Tryz.call10 (impl_QueueTick_ac hq) rfl (by decide) trivial rfl (.inr ⟨rfl, ⟨fun _ => rfl, fun _ => rfl, trivial⟩⟩) rfl ?_
     iterate 8 refine v_op hT hC rfl rfl rfl rfl trivial ?_
     refine Vc.nil ?_
     refine live [3, 12, 13, 14] [192, 288, 1360, 1361] (s' := [_, _, _, _]) (o' := [_, _, _, _]) rfl rfl ?_
     obtain ⟨v20, h1, h⟩ := bnd_some h
     refine aw_to ([(2, .sv (.bool v20)), (3, .any), (12, .any), (13, .any), (14, .any)], [(192, none), (288, none), (1360, none), (1361, none)]) ?_ ?_
     ·
      have h := h1
      refine aw_draw hm ?_
      iterate 3 refine v_op hT hC rfl rfl rfl rfl trivial ?_
      rcases sel_some h with ⟨hb13, h⟩ | ⟨hb13, h⟩
      ·
       iterate 2 refine v_on hT hC rfl rfl rfl rfl hb13 rfl rfl rfl trivial ?_
       obtain ⟨q21, hq, h⟩ := bnd_some h
       refine v_call_on hC [] rfl rfl rfl rfl hb13 rfl rfl rfl Tryz.call11 (laws_samePackets_ac hq) rfl (by decide) trivial rfl (.inr ⟨rfl, trivial⟩) rfl ?_
       refine v_pick hC rfl rfl rfl (b := true) hb13 rfl rfl rfl trivial ?_
       refine v_op hT hC rfl rfl rfl rfl trivial ?_
       rcases sel_some h with ⟨hb14, h⟩ | ⟨hb14, h⟩
       ·
        iterate 4 refine v_on hT hC rfl rfl rfl rfl hb14 rfl rfl rfl trivial ?_
        refine v_pick hC rfl rfl rfl (b := true) hb14 rfl rfl rfl trivial ?_
        refine v_op hT hC rfl rfl rfl rfl trivial ?_
        rcases sel_some h with ⟨hb15, h⟩ | ⟨hb15, h⟩
        ·
         iterate 6 refine v_on hT hC rfl rfl rfl rfl hb15 rfl rfl rfl trivial ?_
         obtain ⟨hq, h⟩ := req_some h
         refine v_on hT hC rfl rfl rfl rfl hb15 rfl rfl rfl hq ?_
         refine v_on hT hC rfl rfl rfl rfl hb15 rfl rfl rfl trivial ?_
         obtain ⟨hq, h⟩ := req_some h
         refine v_on hT hC rfl rfl rfl rfl hb15 rfl rfl rfl hq ?_
         obtain ⟨q22, hq, h⟩ := bnd_some h
         refine v_call_on hC [] rfl rfl rfl rfl hb15 rfl rfl rfl Tryz.call12 (impl_SeqPlus_ac hq) rfl (by decide) trivial rfl (.inl rfl) rfl ?_
         refine v_on hT hC rfl rfl rfl rfl hb15 rfl rfl rfl trivial ?_
         refine v_pick hC rfl rfl rfl (b := true) hb15 rfl rfl rfl trivial ?_
         refine v_op hT hC rfl rfl rfl rfl trivial ?_
         rcases sel_some h with ⟨hb16, h⟩ | ⟨hb16, h⟩
         ·
          refine v_on hT hC rfl rfl rfl rfl hb16 rfl rfl rfl trivial ?_
          obtain ⟨q23, hq, h⟩ := bnd_some h
          refine v_call_on hC [] rfl rfl rfl rfl hb16 rfl rfl rfl Tryz.call13 (impl_QueueOk_ac hq) rfl (by decide) trivial rfl (.inr ⟨rfl, trivial⟩) rfl ?_
          refine v_pick hC rfl rfl rfl (b := true) hb16 rfl rfl rfl trivial ?_
          refine v_op hT hC rfl rfl rfl rfl trivial ?_
          refine Vc.nil ⟨by kernel_rfl, ?_⟩
          injection h with h
          subst h
          refine m_norm ?_
          apply w_conv hC []
          ·
           exact co
          ·
           rfl
          ·
           decide
          ·
           rfl
         ·
          refine v_off hC rfl rfl rfl rfl hb16 rfl rfl ?_
          refine v_off hC rfl rfl rfl rfl hb16 rfl rfl ?_
          refine v_pick hC rfl rfl rfl (b := false) hb16 rfl rfl rfl trivial ?_
          refine v_op hT hC rfl rfl rfl rfl trivial ?_
          refine Vc.nil ⟨by kernel_rfl, ?_⟩
          injection h with h
          subst h
          refine m_norm ?_
          apply w_conv hC []
          ·
           exact co
          ·
           rfl
          ·
           decide
          ·
           rfl
        ·
         refine v_off hC rfl rfl rfl rfl hb15 rfl rfl ?_
         refine v_off hC rfl rfl rfl rfl hb15 rfl rfl ?_
         refine v_off hC rfl rfl rfl rfl hb15 rfl rfl ?_
         refine v_off hC rfl rfl rfl rfl hb15 rfl rfl ?_
         refine v_off hC rfl rfl rfl rfl hb15 rfl rfl ?_
         refine v_off hC rfl rfl rfl rfl hb15 rfl rfl ?_
         refine v_off hC rfl rfl rfl rfl hb15 rfl rfl ?_
         refine v_off hC rfl rfl rfl rfl hb15 rfl rfl ?_
         refine v_off hC rfl rfl rfl rfl hb15 rfl rfl ?_
         refine v_off hC rfl rfl rfl rfl hb15 rfl rfl ?_
         refine v_off hC rfl rfl rfl rfl hb15 rfl rfl ?_
         refine v_pick hC rfl rfl rfl (b := false) hb15 rfl rfl rfl trivial ?_
         refine v_op hT hC rfl rfl rfl rfl trivial ?_
         refine v_off hC rfl rfl rfl rfl rfl rfl rfl ?_
         refine v_off hC rfl rfl rfl rfl rfl rfl rfl ?_
         iterate 2 refine v_op hT hC rfl rfl rfl rfl trivial ?_
         refine Vc.nil ⟨by kernel_rfl, ?_⟩
         injection h with h
         subst h
         refine m_norm ?_
         apply w_conv hC []
         ·
          exact co
         ·
          rfl
         ·
          decide
         ·
          rfl
       ·
        refine v_off hC rfl rfl rfl rfl hb14 rfl rfl ?_
        refine v_off hC rfl rfl rfl rfl hb14 rfl rfl ?_
        refine v_off hC rfl rfl rfl rfl hb14 rfl rfl ?_
        refine v_off hC rfl rfl rfl rfl hb14 rfl rfl ?_
        refine v_pick hC rfl rfl rfl (b := false) hb14 rfl rfl rfl trivial ?_
        refine v_op hT hC rfl rfl rfl rfl trivial ?_
        refine v_off hC rfl rfl rfl rfl rfl rfl rfl ?_
        refine v_off hC rfl rfl rfl rfl rfl rfl rfl ?_
        refine v_off hC rfl rfl rfl rfl rfl rfl rfl ?_
        refine v_off hC rfl rfl rfl rfl rfl rfl rfl ?_
        refine v_off hC rfl rfl rfl rfl rfl rfl rfl ?_
        refine v_off hC rfl rfl rfl rfl rfl rfl rfl ?_
        refine v_off hC rfl rfl rfl rfl rfl rfl rfl ?_
        refine v_off hC rfl rfl rfl rfl rfl rfl rfl ?_
        refine v_off hC rfl rfl rfl rfl rfl rfl rfl ?_
        refine v_off hC rfl rfl rfl rfl rfl rfl rfl ?_
        refine v_off hC rfl rfl rfl rfl rfl rfl rfl ?_
        iterate 2 refine v_op hT hC rfl rfl rfl rfl trivial ?_
        refine v_off hC rfl rfl rfl rfl rfl rfl rfl ?_
        refine v_off hC rfl rfl rfl rfl rfl rfl rfl ?_
        iterate 2 refine v_op hT hC rfl rfl rfl rfl trivial ?_
        refine Vc.nil ⟨by kernel_rfl, ?_⟩
        injection h with h
        subst h
        refine m_norm ?_
        apply w_conv hC []
        ·
         exact co
        ·
         rfl
        ·
         decide
        ·
         rfl
      ·
       refine v_off hC rfl rfl rfl rfl hb13 rfl rfl ?_
       refine v_off hC rfl rfl rfl rfl hb13 rfl rfl ?_
       refine v_off hC rfl rfl rfl rfl hb13 rfl rfl ?_
       refine v_pick hC rfl rfl rfl (b := false) hb13 rfl rfl rfl trivial ?_
       refine v_op hT hC rfl rfl rfl rfl trivial ?_
       refine v_off hC rfl rfl rfl rfl rfl rfl rfl ?_
       refine v_off hC rfl rfl rfl rfl rfl rfl rfl ?_
       refine v_off hC rfl rfl rfl rfl rfl rfl rfl ?_
       refine v_off hC rfl rfl rfl rfl rfl rfl rfl ?_
       iterate 2 refine v_op hT hC rfl rfl rfl rfl trivial ?_
       refine v_off hC rfl rfl rfl rfl rfl rfl rfl ?_
       refine v_off hC rfl rfl rfl rfl rfl rfl rfl ?_
       refine v_off hC rfl rfl rfl rfl rfl rfl rfl ?_
       refine v_off hC rfl rfl rfl rfl rfl rfl rfl ?_
       refine v_off hC rfl rfl rfl rfl rfl rfl rfl ?_
       refine v_off hC rfl rfl rfl rfl rfl rfl rfl ?_
       refine v_off hC rfl rfl rfl rfl rfl rfl rfl ?_
       refine v_off hC rfl rfl rfl rfl rfl rfl rfl ?_
       refine v_off hC rfl rfl rfl rfl rfl rfl rfl ?_
       refine v_off hC rfl rfl rfl rfl rfl rfl rfl ?_
       refine v_off hC rfl rfl rfl rfl rfl rfl rfl ?_
       iterate 2 refine v_op hT hC rfl rfl rfl rfl trivial ?_
       refine v_off hC rfl rfl rfl rfl rfl rfl rfl ?_
       refine v_off hC rfl rfl rfl rfl rfl rfl rfl ?_
       iterate 2 refine v_op hT hC rfl rfl rfl rfl trivial ?_
       refine Vc.nil ⟨by kernel_rfl, ?_⟩
       injection h with h
       subst h
       refine m_norm ?_
       apply w_conv hC []
       ·
        exact co
       ·
        rfl
       ·
        decide
       ·
        rfl
     refine aw_ret ?_
     injection h with h
     subst h
     exact ends (Weak.refl _) rfl trivial
    ·
     intro r' σ' e hE
     subst e
     injection h with h
     subst h
     refine t_ret ?_
     exact hE
end
end Go.Proofs.YtgmcephkajhfjaaGreat.A
