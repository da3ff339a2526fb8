/- Contracts of the functions that the law FnPackets reaches, part 3: each comes to what its pure function tells. Written by a program of this session. Conditions: as each statement tells. -/
import Derived.Test.YtgmcephkajhfjaaGreatFFnPacketsx2
namespace Go.Proofs.YtgmcephkajhfjaaGreat.A
open Go Go.Proofs Go.Proofs.YtgmcephkajhfjaaGreatAL Go.RowKit
set_option linter.unusedVariables false
set_option linter.unusedSimpArgs false
set_option maxRecDepth 100000
set_option maxHeartbeats 2000000
noncomputable section
def spec_l19Right_res (r : (Source × (List ByteArray) × L01Cur)) : AV := .tup [.agg [.sv (.int .i64 r.1.Seq.Level), .sv (.int .i64 r.1.Seq.Bits), .own 16, .own 17, .sv (.int .i64 r.1.Par.Qp), .sv (.bool r.1.Par.Large), .sv (.bool r.1.Par.Exact), .sv (.bool r.1.Par.Confined), .sv (.int .i64 r.1.Rate.Qp), .sv (.int .i64 r.1.Rate.Target), .sv (.int .i64 r.1.Rate.Debt), .sv (.int .i64 r.1.Frame), .sv (.int .i64 r.1.Since), .sv (.int .i64 r.1.Every), .sv (.int .i64 r.1.Reach), .sv (.bool r.1.Has), .sv (.int .i64 r.1.Ref.Wide), .sv (.int .i64 r.1.Ref.High), .sv (.str r.1.Ref.Dots)], .own 18]
def spec_l19Right_obs (r : (Source × (List ByteArray) × L01Cur)) : Objs := [(16, .ints .i64 r.1.Seq.Cols), (17, .ints .i64 r.1.Seq.Rows), (18, .row cByteArray r.2.1), (0, .box [.sv (.ints .u8 r.2.2.b_), .sv (.int .i64 r.2.2.i_), .sv (.int .i64 r.2.2.h_)])]
theorem spec_l19Right_ac {p0 : L01Cur} {r : (Source × (List ByteArray) × L01Cur)} (h : spec_l19Right p0 = some r) : AC Tryz.prog 33 [.ptr 0 0] [(0, .box [.sv (.ints .u8 p0.b_), .sv (.int .i64 p0.i_), .sv (.int .i64 p0.h_)])] (spec_l19Right_res r) (spec_l19Right_obs r) := by
 refine ac_of_body hT Tryz.func33 rfl fun C hC => ?_
 unfold spec_l19Right at h
 refine s_reg ?_
 iterate 2 refine v_op hT hC rfl rfl rfl rfl trivial ?_
 refine Vc.nil ?_
 refine s_reg ?_
 refine v_op hT hC rfl rfl rfl rfl trivial ?_
 obtain ⟨q1, hq, h⟩ := bnd_some h
 refine v_call hC [(0, 0)] rfl rfl rfl rfl Tryz.call22 (spec_l01Below_ac hq) rfl (by decide) ⟨rfl, trivial⟩ rfl (.inl rfl) rfl ?_
 iterate 2 refine v_op hT hC rfl rfl rfl rfl trivial ?_
 obtain ⟨q2, hq, h⟩ := bnd_some h
 refine v_call hC [(0, 0)] rfl rfl rfl rfl Tryz.call22 (spec_l01Below_ac hq) rfl (by decide) ⟨rfl, trivial⟩ rfl (.inl rfl) rfl ?_
 iterate 2 refine v_op hT hC rfl rfl rfl rfl trivial ?_
 obtain ⟨q3, hq, h⟩ := bnd_some h
 refine v_call hC [(0, 0)] rfl rfl rfl rfl Tryz.call22 (spec_l01Below_ac hq) rfl (by decide) ⟨rfl, trivial⟩ rfl (.inl rfl) rfl ?_
 iterate 2 refine v_op hT hC rfl rfl rfl rfl trivial ?_
 obtain ⟨q4, hq, h⟩ := bnd_some h
 refine v_call hC [(0, 0)] rfl rfl rfl rfl Tryz.call42 (spec_l05ParRight_ac hq) rfl (by decide) ⟨rfl, trivial⟩ rfl (.inl rfl) rfl ?_
 refine v_op hT hC rfl rfl rfl rfl trivial ?_
 obtain ⟨q5, hq, h⟩ := bnd_some h
 refine v_call hC [(0, 0)] rfl rfl rfl rfl Tryz.call43 (spec_l18Right_ac hq) rfl (by decide) ⟨rfl, trivial⟩ rfl (.inl rfl) rfl ?_
 refine v_op hT hC rfl rfl rfl rfl trivial ?_
 obtain ⟨q6, hq, h⟩ := bnd_some h
 refine v_call hC [(0, 0)] rfl rfl rfl rfl Tryz.call22 (spec_l01Below_ac hq) rfl (by decide) ⟨rfl, trivial⟩ rfl (.inl rfl) rfl ?_
 iterate 2 refine v_op hT hC rfl rfl rfl rfl trivial ?_
 obtain ⟨q7, hq, h⟩ := bnd_some h
 refine v_call hC [(0, 0)] rfl rfl rfl rfl Tryz.call22 (spec_l01Below_ac hq) rfl (by decide) ⟨rfl, trivial⟩ rfl (.inl rfl) rfl ?_
 obtain ⟨q8, hq, h⟩ := bnd_some h
 refine v_call hC [(16, 528), (17, 529)] rfl rfl rfl rfl Tryz.call41 (spec_SourceNew_ac hq) rfl (by decide) trivial rfl (.inl rfl) rfl ?_
 iterate 6 refine v_op hT hC rfl rfl rfl rfl trivial ?_
 refine Vc.nil ?_
 refine s_reg ?_
 iterate 2 refine v_op hT hC rfl rfl rfl rfl trivial ?_
 refine Vc.nil ?_
 refine s_reg ?_
 iterate 2 refine v_op hT hC rfl rfl rfl rfl trivial ?_
 obtain ⟨q9, hq, h⟩ := bnd_some h
 refine v_call hC [] rfl rfl rfl rfl Tryz.call44 (spec_SizeOf_ac hq) rfl (by decide) trivial rfl (.inr ⟨rfl, trivial⟩) rfl ?_
 iterate 5 refine v_op hT hC rfl rfl rfl rfl trivial ?_
 refine Vc.nil ?_
 refine s_reg ?_
 iterate 3 refine v_op hT hC rfl rfl rfl rfl trivial ?_
 obtain ⟨q10, hq, h⟩ := bnd_some h
 refine v_call hC [(0, 0)] rfl rfl rfl rfl Tryz.call45 (spec_l12Sized_ac hq) rfl (by decide) ⟨rfl, trivial⟩ rfl (.inl rfl) rfl ?_
 iterate 2 refine v_op hT hC rfl rfl rfl rfl trivial ?_
 refine Vc.nil ?_
 refine s_in ?_
 refine s_reg ?_
 refine v_op hT hC rfl rfl rfl rfl trivial ?_
 refine Vc.nil ?_
 refine live [0, 2, 4, 6, 9, 10] [0, 32, 64, 144, 528, 529, 576] (s' := [_, _, _, _, _, _]) (o' := [_, _, _, _, _, _, _]) rfl rfl ?_
 obtain ⟨v22, hl, h⟩ := bnd_some h
 refine s_loop (fun v16 => ([(10, .sv (.int .i64 v16.1))], [(0, some (.box [.sv (.ints .u8 v16.2.1), .sv (.int .i64 v16.2.2.1), .sv (.int .i64 v16.2.2.2.1)])), (64, some (.box [.sv (.int .i64 v16.2.2.2.2.1), .sv (.int .i64 v16.2.2.2.2.2.1), .own 528, .own 529, .sv (.int .i64 v16.2.2.2.2.2.2.1), .sv (.bool v16.2.2.2.2.2.2.2.1), .sv (.bool v16.2.2.2.2.2.2.2.2.1), .sv (.bool v16.2.2.2.2.2.2.2.2.2.1), .sv (.int .i64 v16.2.2.2.2.2.2.2.2.2.2.1), .sv (.int .i64 v16.2.2.2.2.2.2.2.2.2.2.2.1), .sv (.int .i64 v16.2.2.2.2.2.2.2.2.2.2.2.2.1), .sv (.int .i64 v16.2.2.2.2.2.2.2.2.2.2.2.2.2.1), .sv (.int .i64 v16.2.2.2.2.2.2.2.2.2.2.2.2.2.2.1), .sv (.int .i64 v16.2.2.2.2.2.2.2.2.2.2.2.2.2.2.2.1), .sv (.int .i64 v16.2.2.2.2.2.2.2.2.2.2.2.2.2.2.2.2.1), .sv (.bool v16.2.2.2.2.2.2.2.2.2.2.2.2.2.2.2.2.2.1), .sv (.int .i64 v16.2.2.2.2.2.2.2.2.2.2.2.2.2.2.2.2.2.2.1), .sv (.int .i64 v16.2.2.2.2.2.2.2.2.2.2.2.2.2.2.2.2.2.2.2.1), .sv (.str v16.2.2.2.2.2.2.2.2.2.2.2.2.2.2.2.2.2.2.2.2.1)])), (144, some (.box [.sv (.int .i64 v16.2.2.2.2.2.2.2.2.2.2.2.2.2.2.2.2.2.2.2.2.2.2.1), .sv (.int .i64 v16.2.2.2.2.2.2.2.2.2.2.2.2.2.2.2.2.2.2.2.2.2.2.2.1), .sv (.str v16.2.2.2.2.2.2.2.2.2.2.2.2.2.2.2.2.2.2.2.2.2.2.2.2.1)])), (528, some (.ints .i64 v16.2.2.2.2.2.2.2.2.2.2.2.2.2.2.2.2.2.2.2.2.2.2.2.2.2.1)), (529, some (.ints .i64 v16.2.2.2.2.2.2.2.2.2.2.2.2.2.2.2.2.2.2.2.2.2.2.2.2.2.2)), (576, some (.row cByteArray v16.2.2.2.2.2.2.2.2.2.2.2.2.2.2.2.2.2.2.2.2.2.1))])) (fun v22 => ([(0, .any), (9, .any), (10, .any)], [(0, some (.box [.sv (.ints .u8 v22.2.2.2.2.2.2.2.2.2.2.2.2.2.2.2.2.2.2.1), .sv (.int .i64 v22.2.2.2.2.2.2.2.2.2.2.2.2.2.2.2.2.2.2.2.1), .sv (.int .i64 v22.2.2.2.2.2.2.2.2.2.2.2.2.2.2.2.2.2.2.2.2.1)])), (64, some (.box [.sv (.int .i64 v22.1), .sv (.int .i64 v22.2.1), .own 528, .own 529, .sv (.int .i64 v22.2.2.1), .sv (.bool v22.2.2.2.1), .sv (.bool v22.2.2.2.2.1), .sv (.bool v22.2.2.2.2.2.1), .sv (.int .i64 v22.2.2.2.2.2.2.1), .sv (.int .i64 v22.2.2.2.2.2.2.2.1), .sv (.int .i64 v22.2.2.2.2.2.2.2.2.1), .sv (.int .i64 v22.2.2.2.2.2.2.2.2.2.1), .sv (.int .i64 v22.2.2.2.2.2.2.2.2.2.2.1), .sv (.int .i64 v22.2.2.2.2.2.2.2.2.2.2.2.1), .sv (.int .i64 v22.2.2.2.2.2.2.2.2.2.2.2.2.1), .sv (.bool v22.2.2.2.2.2.2.2.2.2.2.2.2.2.1), .sv (.int .i64 v22.2.2.2.2.2.2.2.2.2.2.2.2.2.2.1), .sv (.int .i64 v22.2.2.2.2.2.2.2.2.2.2.2.2.2.2.2.1), .sv (.str v22.2.2.2.2.2.2.2.2.2.2.2.2.2.2.2.2.1)])), (528, some (.ints .i64 v22.2.2.2.2.2.2.2.2.2.2.2.2.2.2.2.2.2.2.2.2.2.1)), (529, some (.ints .i64 v22.2.2.2.2.2.2.2.2.2.2.2.2.2.2.2.2.2.2.2.2.2.2)), (576, some (.row cByteArray v22.2.2.2.2.2.2.2.2.2.2.2.2.2.2.2.2.2.1)), (144, none)])) hl ?_ ?_ ?_
 ·
  try dsimp only
  apply w_conv hC []
  ·
   exact co
  ·
   rfl
  ·
   decide
  ·
   rfl
 ·
  intro v16 s hs
  have h := hs
  unfold spec_l19Right_l2 at h
  refine s_in ?_
  refine s_reg ?_
  iterate 2 refine v_op hT hC rfl rfl rfl rfl trivial ?_
  obtain ⟨q23, hq, h⟩ := bnd_some h
  refine v_call hC [(0, 0)] rfl rfl rfl rfl Tryz.call22 (spec_l01Below_ac hq) rfl (by decide) ⟨rfl, trivial⟩ rfl (.inl rfl) rfl ?_
  refine v_op hT hC rfl rfl rfl rfl trivial ?_
  refine Vc.nil ?_
  rcases sel_some h with ⟨hb3, h⟩ | ⟨hb3, h⟩
  ·
   refine s_true rfl hb3 ?_
   refine aw_skip ?_
   refine t_norm ?_
   refine s_in ?_
   refine s_block ?_
   refine s_draw hm ?_
   iterate 3 refine v_op hT hC rfl rfl rfl rfl trivial ?_
   obtain ⟨q24, hq, h⟩ := bnd_some h
   refine v_call hC [(0, 0)] rfl rfl rfl rfl Tryz.call32 (spec_l01Once_ac hq) rfl (by decide) ⟨rfl, trivial⟩ rfl (.inl rfl) rfl ?_
   obtain ⟨q25, hq, h⟩ := bnd_some h
   refine v_call hC [(16, 928), (17, 929), (18, 930)] rfl rfl rfl rfl Tryz.call46 (spec_SourceStep_ac hq) rfl (by decide) trivial rfl (.inr ⟨rfl, ⟨trivial, trivial, fun _ => rfl, trivial⟩⟩) rfl ?_
   iterate 8 refine v_op hT hC rfl rfl rfl rfl trivial ?_
   refine Vc.nil ⟨by kernel_rfl, ?_⟩
   refine s_reg ?_
   iterate 2 refine v_op hT hC rfl rfl rfl rfl trivial ?_
   refine Vc.nil ?_
   refine s_reg ?_
   iterate 2 refine v_op hT hC rfl rfl rfl rfl trivial ?_
   obtain ⟨hq, h⟩ := req_some h
   refine v_op hT hC rfl rfl rfl rfl ⟨fun _ _ => rfl, by rw [cByteArray_id]; exact hq⟩ ?_
   rw [cByteArray_id]
   refine v_op hT hC rfl rfl rfl rfl trivial ?_
   refine Vc.nil ?_
   refine aw_region ?_
   iterate 2 refine v_op hT hC rfl rfl rfl rfl trivial ?_
   obtain ⟨q26, hq, h⟩ := bnd_some h
   refine v_call hC [(0, 0)] rfl rfl rfl rfl Tryz.call47 (spec_l17Near_ac hq) rfl (by decide) ⟨rfl, trivial⟩ rfl (.inl rfl) rfl ?_
   refine v_op hT hC rfl rfl rfl rfl trivial ?_
   refine Vc.nil ?_
   refine b_norm ?_
   refine t_norm ?_
   refine aw_region ?_
   iterate 3 refine v_op hT hC rfl rfl rfl rfl trivial ?_
   refine Vc.nil ?_
   injection h with h
   subst h
   refine r_go ?_
   try dsimp only
   apply w_conv hC [(528, 928), (529, 929), (576, 1040)]
   ·
    exact co
   ·
    rfl
   ·
    decide
   ·
    rfl
  ·
   refine s_false rfl hb3 ?_
   refine aw_exit ?_
   refine t_exit ?_
   injection h with h
   subst h
   refine r_exit ?_
   refine o_out ?_
   try dsimp only
   apply w_conv hC []
   ·
    exact co
   ·
    rfl
   ·
    decide
   ·
    rfl
 refine t_norm ?_
 refine s_reg ?_
 iterate 4 refine v_op hT hC rfl rfl rfl rfl trivial ?_
 refine Vc.nil ?_
 refine aw_ret ?_
 injection h with h
 subst h
 refine ends (τ := ⟨[(2, .ptr 2000000 0), (3, .own 18)], [(16, some (.ints .i64 v22.2.2.2.2.2.2.2.2.2.2.2.2.2.2.2.2.2.2.2.2.2.1)), (17, some (.ints .i64 v22.2.2.2.2.2.2.2.2.2.2.2.2.2.2.2.2.2.2.2.2.2.2)), (18, some (.row cByteArray v22.2.2.2.2.2.2.2.2.2.2.2.2.2.2.2.2.2.1)), (0, some (.box [.sv (.ints .u8 v22.2.2.2.2.2.2.2.2.2.2.2.2.2.2.2.2.2.2.1), .sv (.int .i64 v22.2.2.2.2.2.2.2.2.2.2.2.2.2.2.2.2.2.2.2.1), .sv (.int .i64 v22.2.2.2.2.2.2.2.2.2.2.2.2.2.2.2.2.2.2.2.2.1)])), (2000000, some (.box [.sv (.int .i64 v22.1), .sv (.int .i64 v22.2.1), .own 16, .own 17, .sv (.int .i64 v22.2.2.1), .sv (.bool v22.2.2.2.1), .sv (.bool v22.2.2.2.2.1), .sv (.bool v22.2.2.2.2.2.1), .sv (.int .i64 v22.2.2.2.2.2.2.1), .sv (.int .i64 v22.2.2.2.2.2.2.2.1), .sv (.int .i64 v22.2.2.2.2.2.2.2.2.1), .sv (.int .i64 v22.2.2.2.2.2.2.2.2.2.1), .sv (.int .i64 v22.2.2.2.2.2.2.2.2.2.2.1), .sv (.int .i64 v22.2.2.2.2.2.2.2.2.2.2.2.1), .sv (.int .i64 v22.2.2.2.2.2.2.2.2.2.2.2.2.1), .sv (.bool v22.2.2.2.2.2.2.2.2.2.2.2.2.2.1), .sv (.int .i64 v22.2.2.2.2.2.2.2.2.2.2.2.2.2.2.1), .sv (.int .i64 v22.2.2.2.2.2.2.2.2.2.2.2.2.2.2.2.1), .sv (.str v22.2.2.2.2.2.2.2.2.2.2.2.2.2.2.2.2.1)]))]⟩) ?_ rfl ⟨rfl, rfl, rfl, rfl, trivial⟩
 apply w_conv hC [(16, 528), (17, 529), (18, 576), (2000000, 32)]
 ·
  exact co
 ·
  rfl
 ·
  decide
 ·
  rfl
def spec_l22Seq_res (r : (Int × L01Cur)) : AV := .sv (.int .i64 r.1)
def spec_l22Seq_obs (r : (Int × L01Cur)) : Objs := [(0, .box [.sv (.ints .u8 r.2.b_), .sv (.int .i64 r.2.i_), .sv (.int .i64 r.2.h_)])]
theorem spec_l22Seq_ac {p0 : L01Cur} {r : (Int × L01Cur)} (h : spec_l22Seq p0 = some r) : AC Tryz.prog 35 [.ptr 0 0] [(0, .box [.sv (.ints .u8 p0.b_), .sv (.int .i64 p0.i_), .sv (.int .i64 p0.h_)])] (spec_l22Seq_res r) (spec_l22Seq_obs r) := by
 refine ac_of_body hT Tryz.func35 rfl fun C hC => ?_
 unfold spec_l22Seq at h
 refine s_reg ?_
 refine v_op hT hC rfl rfl rfl rfl trivial ?_
 refine Vc.nil ?_
 refine s_in ?_
 refine s_reg ?_
 refine v_op hT hC rfl rfl rfl rfl trivial ?_
 obtain ⟨q1, hq, h⟩ := bnd_some h
 refine v_call hC [(0, 0)] rfl rfl rfl rfl Tryz.call32 (spec_l01Once_ac hq) rfl (by decide) ⟨rfl, trivial⟩ rfl (.inl rfl) rfl ?_
 refine Vc.nil ?_
 rcases sel_some h with ⟨hb1, h⟩ | ⟨hb1, h⟩
 ·
  refine s_true rfl hb1 ?_
  refine s_reg ?_
  refine v_op hT hC rfl rfl rfl rfl trivial ?_
  refine v_shut hT hC rfl rfl rfl rfl trivial rfl ?_
  obtain ⟨q2, hq, h⟩ := bnd_some h
  refine v_call hC [(0, 0)] rfl rfl rfl rfl Tryz.call36 (spec_l01PickInt_ac hq) rfl (by decide) ⟨rfl, trivial⟩ rfl (.inl rfl) rfl ?_
  refine v_op hT hC rfl rfl rfl rfl trivial ?_
  refine Vc.nil ?_
  refine aw_ret ?_
  refine t_ret ?_
  injection h with h
  subst h
  exact ends (Weak.refl _) rfl ⟨rfl, trivial⟩
 ·
  refine s_false rfl hb1 ?_
  refine aw_skip ?_
  refine t_norm ?_
  refine s_reg ?_
  refine v_op hT hC rfl rfl rfl rfl trivial ?_
  obtain ⟨q3, hq, h⟩ := bnd_some h
  refine v_call hC [(0, 0)] rfl rfl rfl rfl Tryz.call22 (spec_l01Below_ac hq) rfl (by decide) ⟨rfl, trivial⟩ rfl (.inl rfl) rfl ?_
  refine v_op hT hC rfl rfl rfl rfl trivial ?_
  refine Vc.nil ?_
  refine aw_ret ?_
  injection h with h
  subst h
  exact ends (Weak.refl _) rfl ⟨rfl, trivial⟩
def spec_l04Escaped_res (r : ByteArray) : AV := .sv (.str r)
def spec_l04Escaped_obs (r : ByteArray) : Objs := []
theorem spec_l04Escaped_ac {p0 : ByteArray} {r : ByteArray} (h : spec_l04Escaped p0 = some r) : AC Tryz.prog 91 [.sv (.str p0)] [] (spec_l04Escaped_res r) (spec_l04Escaped_obs r) := by
 refine ac_of_body hT Tryz.func91 rfl fun C hC => ?_
 unfold spec_l04Escaped at h
 refine s_reg ?_
 refine v_op hT hC rfl rfl rfl rfl trivial ?_
 refine Vc.nil ?_
 refine s_reg ?_
 iterate 2 refine v_op hT hC rfl rfl rfl rfl trivial ?_
 refine Vc.nil ?_
 refine s_in ?_
 refine s_reg ?_
 refine v_op hT hC rfl rfl rfl rfl trivial ?_
 refine Vc.nil ?_
 refine live [0, 3, 4] [96] (s' := [_, _, _]) (o' := [_]) rfl rfl ?_
 obtain ⟨v8, hl, h⟩ := bnd_some h
 refine s_loop (fun v4 => ([(4, .sv (.int .i64 v4.1))], [(96, some (.ints .u8 v4.2))])) (fun v8 => ([(0, .any), (4, .any)], [(96, some (.ints .u8 v8))])) hl ?_ ?_ ?_
 ·
  try dsimp only
  apply w_conv hC []
  ·
   exact co
  ·
   rfl
  ·
   decide
  ·
   rfl
 ·
  intro v4 s hs
  have h := hs
  unfold spec_l04Escaped_l2 at h
  refine s_in ?_
  refine s_reg ?_
  iterate 4 refine v_op hT hC rfl rfl rfl rfl trivial ?_
  refine Vc.nil ?_
  rcases sel_some h with ⟨hb11, h⟩ | ⟨hb11, h⟩
  ·
   refine s_true rfl hb11 ?_
   refine aw_skip ?_
   refine t_norm ?_
   refine s_in ?_
   refine s_block ?_
   refine s_reg ?_
   iterate 3 refine v_op hT hC rfl rfl rfl rfl trivial ?_
   refine Vc.nil ?_
   refine live [0, 3, 4, 5] [96] (s' := [_, _, _, _]) (o' := [_]) rfl rfl ?_
   obtain ⟨v9, h1, h⟩ := bnd_some h
   refine aw_to ([(5, .any)], [(96, some (.ints .u8 v9))]) ?_ ?_
   ·
    have h := h1
    refine live [0, 3, 4, 5] [96] (s' := [_, _, _, _]) (o' := [_]) rfl rfl ?_
    obtain ⟨v10, h1, h⟩ := bnd_some h
    refine aw_to ([(38, .sv (.bool v10)), (5, .any)], []) ?_ ?_
    ·
     have h := h1
     refine aw_region ?_
     iterate 3 refine v_op hT hC rfl rfl rfl rfl trivial ?_
     rcases sel_some h with ⟨hb12, h⟩ | ⟨hb12, h⟩
     ·
      iterate 3 refine v_on hT hC rfl rfl rfl rfl hb12 rfl rfl rfl trivial ?_
      obtain ⟨hq, h⟩ := req_some h
      refine v_on hT hC rfl rfl rfl rfl hb12 rfl rfl rfl hq ?_
      obtain ⟨hq, h⟩ := req_some h
      refine v_on hT hC rfl rfl rfl rfl hb12 rfl rfl rfl hq ?_
      refine v_on hT hC rfl rfl rfl rfl hb12 rfl rfl rfl trivial ?_
      refine v_pick hC rfl rfl rfl (b := true) hb12 rfl rfl rfl trivial ?_
      refine v_op hT hC rfl rfl rfl rfl trivial ?_
      rcases sel_some h with ⟨hb13, h⟩ | ⟨hb13, h⟩
      ·
       iterate 3 refine v_on hT hC rfl rfl rfl rfl hb13 rfl rfl rfl trivial ?_
       obtain ⟨hq, h⟩ := req_some h
       refine v_on hT hC rfl rfl rfl rfl hb13 rfl rfl rfl hq ?_
       obtain ⟨hq, h⟩ := req_some h
       refine v_on hT hC rfl rfl rfl rfl hb13 rfl rfl rfl hq ?_
       refine v_on hT hC rfl rfl rfl rfl hb13 rfl rfl rfl trivial ?_
       refine v_pick hC rfl rfl rfl (b := true) hb13 rfl rfl rfl trivial ?_
       refine v_op hT hC rfl rfl rfl rfl trivial ?_
       rcases sel_some h with ⟨hb14, h⟩ | ⟨hb14, h⟩
       ·
        iterate 2 refine v_on hT hC rfl rfl rfl rfl hb14 rfl rfl rfl trivial ?_
        obtain ⟨hq, h⟩ := req_some h
        refine v_on hT hC rfl rfl rfl rfl hb14 rfl rfl rfl hq ?_
        refine v_on hT hC rfl rfl rfl rfl hb14 rfl rfl rfl trivial ?_
        refine v_pick hC rfl rfl rfl (b := true) hb14 rfl rfl rfl trivial ?_
        refine Vc.nil ?_
        injection h with h
        subst h
        refine m_norm ?_
        apply w_conv hC []
        ·
         exact co
        ·
         rfl
        ·
         decide
        ·
         rfl
       ·
        refine v_off hC rfl rfl rfl rfl hb14 rfl rfl ?_
        refine v_off hC rfl rfl rfl rfl hb14 rfl rfl ?_
        refine v_off hC rfl rfl rfl rfl hb14 rfl rfl ?_
        refine v_off hC rfl rfl rfl rfl hb14 rfl rfl ?_
        refine v_pick hC rfl rfl rfl (b := false) hb14 rfl rfl rfl trivial ?_
        refine Vc.nil ?_
        injection h with h
        subst h
        refine m_norm ?_
        apply w_conv hC []
        ·
         exact co
        ·
         rfl
        ·
         decide
        ·
         rfl
      ·
       refine v_off hC rfl rfl rfl rfl hb13 rfl rfl ?_
       refine v_off hC rfl rfl rfl rfl hb13 rfl rfl ?_
       refine v_off hC rfl rfl rfl rfl hb13 rfl rfl ?_
       refine v_off hC rfl rfl rfl rfl hb13 rfl rfl ?_
       refine v_off hC rfl rfl rfl rfl hb13 rfl rfl ?_
       refine v_off hC rfl rfl rfl rfl hb13 rfl rfl ?_
       refine v_pick hC rfl rfl rfl (b := false) hb13 rfl rfl rfl trivial ?_
       refine v_op hT hC rfl rfl rfl rfl trivial ?_
       refine v_off hC rfl rfl rfl rfl rfl rfl rfl ?_
       refine v_off hC rfl rfl rfl rfl rfl rfl rfl ?_
       refine v_off hC rfl rfl rfl rfl rfl rfl rfl ?_
       refine v_off hC rfl rfl rfl rfl rfl rfl rfl ?_
       refine v_op hT hC rfl rfl rfl rfl trivial ?_
       refine Vc.nil ?_
       injection h with h
       subst h
       refine m_norm ?_
       apply w_conv hC []
       ·
        exact co
       ·
        rfl
       ·
        decide
       ·
        rfl
     ·
      refine v_off hC rfl rfl rfl rfl hb12 rfl rfl ?_
      refine v_off hC rfl rfl rfl rfl hb12 rfl rfl ?_
      refine v_off hC rfl rfl rfl rfl hb12 rfl rfl ?_
      refine v_off hC rfl rfl rfl rfl hb12 rfl rfl ?_
      refine v_off hC rfl rfl rfl rfl hb12 rfl rfl ?_
      refine v_off hC rfl rfl rfl rfl hb12 rfl rfl ?_
      refine v_pick hC rfl rfl rfl (b := false) hb12 rfl rfl rfl trivial ?_
      refine v_op hT hC rfl rfl rfl rfl trivial ?_
      refine v_off hC rfl rfl rfl rfl rfl rfl rfl ?_
      refine v_off hC rfl rfl rfl rfl rfl rfl rfl ?_
      refine v_off hC rfl rfl rfl rfl rfl rfl rfl ?_
      refine v_off hC rfl rfl rfl rfl rfl rfl rfl ?_
      refine v_off hC rfl rfl rfl rfl rfl rfl rfl ?_
      refine v_off hC rfl rfl rfl rfl rfl rfl rfl ?_
      iterate 2 refine v_op hT hC rfl rfl rfl rfl trivial ?_
      refine v_off hC rfl rfl rfl rfl rfl rfl rfl ?_
      refine v_off hC rfl rfl rfl rfl rfl rfl rfl ?_
      refine v_off hC rfl rfl rfl rfl rfl rfl rfl ?_
      refine v_off hC rfl rfl rfl rfl rfl rfl rfl ?_
      refine v_op hT hC rfl rfl rfl rfl trivial ?_
      refine Vc.nil ?_
      injection h with h
      subst h
      refine m_norm ?_
      apply w_conv hC []
      ·
       exact co
      ·
       rfl
      ·
       decide
      ·
       rfl
    rcases sel_some h with ⟨hb15, h⟩ | ⟨hb15, h⟩
    ·
     refine s_true rfl hb15 ?_
     refine aw_region ?_
     iterate 2 refine v_op hT hC rfl rfl rfl rfl trivial ?_
     obtain ⟨hq, h⟩ := req_some h
     refine v_op hT hC rfl rfl rfl rfl ⟨trivial, hq⟩ ?_
     refine v_op hT hC rfl rfl rfl rfl trivial ?_
     refine Vc.nil ?_
     injection h with h
     subst h
     refine m_norm ?_
     apply w_conv hC [(96, 656)]
     ·
      exact co
     ·
      rfl
     ·
      decide
     ·
      rfl
    ·
     refine s_false rfl hb15 ?_
     refine aw_skip ?_
     injection h with h
     subst h
     refine m_norm ?_
     apply w_conv hC []
     ·
      exact co
     ·
      rfl
     ·
      decide
     ·
      rfl
   refine aw_region ?_
   iterate 3 refine v_op hT hC rfl rfl rfl rfl trivial ?_
   obtain ⟨hq, h⟩ := req_some h
   refine v_op hT hC rfl rfl rfl rfl hq ?_
   refine v_op hT hC rfl rfl rfl rfl trivial ?_
   obtain ⟨hq, h⟩ := req_some h
   refine v_op hT hC rfl rfl rfl rfl ⟨trivial, hq⟩ ?_
   refine v_op hT hC rfl rfl rfl rfl trivial ?_
   refine Vc.nil ?_
   refine b_norm ?_
   refine t_norm ?_
   refine aw_region ?_
   iterate 3 refine v_op hT hC rfl rfl rfl rfl trivial ?_
   refine Vc.nil ?_
   injection h with h
   subst h
   refine r_go ?_
   try dsimp only
   apply w_conv hC [(96, 752)]
   ·
    exact co
   ·
    rfl
   ·
    decide
   ·
    rfl
  ·
   refine s_false rfl hb11 ?_
   refine aw_exit ?_
   refine t_exit ?_
   injection h with h
   subst h
   refine r_exit ?_
   refine o_out ?_
   apply w_conv hC []
   ·
    exact co
   ·
    rfl
   ·
    decide
   ·
    rfl
 refine t_norm ?_
 refine s_reg ?_
 iterate 3 refine v_op hT hC rfl rfl rfl rfl trivial ?_
 refine Vc.nil ?_
 refine aw_ret ?_
 injection h with h
 subst h
 exact ends (Weak.refl _) rfl trivial
def spec_Escaped_res (r : (ByteArray × Bool)) : AV := .tup [.sv (.str r.1), .sv (.bool r.2)]
def spec_Escaped_obs (r : (ByteArray × Bool)) : Objs := []
theorem spec_Escaped_ac {p0 : ByteArray} {r : (ByteArray × Bool)} (h : spec_Escaped p0 = some r) : AC Tryz.prog 68 [.sv (.str p0)] [] (spec_Escaped_res r) (spec_Escaped_obs r) := by
 refine ac_of_body hT Tryz.func68 rfl fun C hC => ?_
 unfold spec_Escaped at h
 refine s_reg ?_
 iterate 2 refine v_op hT hC rfl rfl rfl rfl trivial ?_
 refine Vc.nil ?_
 refine s_in ?_
 refine live [0] [] (s' := [_]) (o' := []) rfl rfl ?_
 obtain ⟨v1, h1, h⟩ := bnd_some h
 refine aw_to ([(19, .sv (.bool v1))], []) ?_ ?_
 ·
  have h := h1
  refine aw_region ?_
  iterate 4 refine v_op hT hC rfl rfl rfl rfl trivial ?_
  rcases sel_some h with ⟨hb1, h⟩ | ⟨hb1, h⟩
  ·
   refine v_off hC rfl rfl rfl rfl hb1 rfl rfl ?_
   refine v_off hC rfl rfl rfl rfl hb1 rfl rfl ?_
   refine v_off hC rfl rfl rfl rfl hb1 rfl rfl ?_
   refine v_pick hC rfl rfl rfl (b := true) hb1 rfl rfl rfl trivial ?_
   refine v_op hT hC rfl rfl rfl rfl trivial ?_
   refine v_off hC rfl rfl rfl rfl rfl rfl rfl ?_
   refine v_off hC rfl rfl rfl rfl rfl rfl rfl ?_
   refine v_off hC rfl rfl rfl rfl rfl rfl rfl ?_
   refine v_off hC rfl rfl rfl rfl rfl rfl rfl ?_
   refine v_off hC rfl rfl rfl rfl rfl rfl rfl ?_
   refine v_off hC rfl rfl rfl rfl rfl rfl rfl ?_
   refine v_op hT hC rfl rfl rfl rfl trivial ?_
   refine Vc.nil ?_
   injection h with h
   subst h
   refine m_norm ?_
   apply w_conv hC []
   ·
    exact co
   ·
    rfl
   ·
    decide
   ·
    rfl
  ·
   iterate 3 refine v_on hT hC rfl rfl rfl rfl hb1 rfl rfl rfl trivial ?_
   refine v_pick hC rfl rfl rfl (b := false) hb1 rfl rfl rfl trivial ?_
   refine v_op hT hC rfl rfl rfl rfl trivial ?_
   rcases sel_some h with ⟨hb2, h⟩ | ⟨hb2, h⟩
   ·
    refine v_off hC rfl rfl rfl rfl hb2 rfl rfl ?_
    refine v_off hC rfl rfl rfl rfl hb2 rfl rfl ?_
    refine v_off hC rfl rfl rfl rfl hb2 rfl rfl ?_
    refine v_off hC rfl rfl rfl rfl hb2 rfl rfl ?_
    refine v_off hC rfl rfl rfl rfl hb2 rfl rfl ?_
    refine v_off hC rfl rfl rfl rfl hb2 rfl rfl ?_
    refine v_pick hC rfl rfl rfl (b := true) hb2 rfl rfl rfl trivial ?_
    refine Vc.nil ?_
    injection h with h
    subst h
    refine m_norm ?_
    apply w_conv hC []
    ·
     exact co
    ·
     rfl
    ·
     decide
    ·
     rfl
   ·
    iterate 4 refine v_on hT hC rfl rfl rfl rfl hb2 rfl rfl rfl trivial ?_
    obtain ⟨hq, h⟩ := req_some h
    refine v_on hT hC rfl rfl rfl rfl hb2 rfl rfl rfl hq ?_
    refine v_on hT hC rfl rfl rfl rfl hb2 rfl rfl rfl trivial ?_
    refine v_pick hC rfl rfl rfl (b := false) hb2 rfl rfl rfl trivial ?_
    refine Vc.nil ?_
    injection h with h
    subst h
    refine m_norm ?_
    apply w_conv hC []
    ·
     exact co
    ·
     rfl
    ·
     decide
    ·
     rfl
 rcases sel_some h with ⟨hb3, h⟩ | ⟨hb3, h⟩
 ·
  refine s_true rfl hb3 ?_
  refine s_reg ?_
  iterate 2 refine v_op hT hC rfl rfl rfl rfl trivial ?_
  refine Vc.nil ?_
  refine aw_ret ?_
  refine t_ret ?_
  injection h with h
  subst h
  exact ends (Weak.refl _) rfl trivial
 ·
  refine s_false rfl hb3 ?_
  refine aw_skip ?_
  refine t_norm ?_
  refine s_reg ?_
  refine v_op hT hC rfl rfl rfl rfl trivial ?_
  obtain ⟨q2, hq, h⟩ := bnd_some h
  refine v_call hC [] rfl rfl rfl rfl Tryz.call91 (spec_l04Escaped_ac hq) rfl (by decide) trivial rfl (.inl rfl) rfl ?_
  iterate 2 refine v_op hT hC rfl rfl rfl rfl trivial ?_
  refine Vc.nil ?_
  refine aw_ret ?_
  injection h with h
  subst h
  exact ends (Weak.refl _) rfl trivial
def spec_Framed_res (r : (ByteArray × Bool)) : AV := .tup [.sv (.str r.1), .sv (.bool r.2)]
def spec_Framed_obs (r : (ByteArray × Bool)) : Objs := []
theorem spec_Framed_ac {p0 : (List ByteArray)} {r : (ByteArray × Bool)} (h : spec_Framed p0 = some r) : AC Tryz.prog 49 [.sv (cByteArray.sv p0)] [] (spec_Framed_res r) (spec_Framed_obs r) := by
 refine ac_of_body hT Tryz.func49 rfl fun C hC => ?_
 unfold spec_Framed at h
 refine s_reg ?_
 iterate 2 refine v_op hT hC rfl rfl rfl rfl trivial ?_
 refine Vc.nil ?_
 refine s_in ?_
 refine s_reg ?_
 iterate 3 refine v_op hT hC rfl rfl rfl rfl trivial ?_
 refine Vc.nil ?_
 rcases sel_some h with ⟨hb1, h⟩ | ⟨hb1, h⟩
 ·
  refine s_true rfl hb1 ?_
  refine s_reg ?_
  iterate 2 refine v_op hT hC rfl rfl rfl rfl trivial ?_
  refine Vc.nil ?_
  refine aw_ret ?_
  refine t_ret ?_
  injection h with h
  subst h
  exact ends (Weak.refl _) rfl trivial
 ·
  refine s_false rfl hb1 ?_
  refine aw_skip ?_
  refine t_norm ?_
  refine s_reg ?_
  iterate 2 refine v_op hT hC rfl rfl rfl rfl trivial ?_
  refine Vc.nil ?_
  refine s_in ?_
  refine s_reg ?_
  refine v_op hT hC rfl rfl rfl rfl trivial ?_
  refine Vc.nil ?_
  refine live [0, 4, 5] [176] (s' := [_, _, _]) (o' := [_]) rfl rfl ?_
  obtain ⟨o8, hl, h⟩ := bnd_some h
  refine s_loopR (fun v3 => ([(5, .sv (.int .i64 v3.1))], [(176, some (.ints .u8 v3.2))])) (fun v6 => ([(0, .any), (5, .any)], [(176, some (.ints .u8 v6))])) (fun r => EndsA C T Tryz.f49.results.toList (spec_Framed_res r) (spec_Framed_obs r)) hl ?_ ?_ ?_ ?_
  ·
   try dsimp only
   apply w_conv hC []
   ·
    exact co
   ·
    rfl
   ·
    decide
   ·
    rfl
  ·
   intro v3 s hs
   have h := hs
   unfold spec_Framed_l2 at h
   refine s_in ?_
   refine s_reg ?_
   iterate 4 refine v_op hT hC rfl rfl rfl rfl trivial ?_
   refine Vc.nil ?_
   rcases sel_some h with ⟨hb8, h⟩ | ⟨hb8, h⟩
   ·
    refine s_true rfl hb8 ?_
    refine aw_skip ?_
    refine t_norm ?_
    refine s_in ?_
    refine s_block ?_
    refine s_reg ?_
    iterate 2 refine v_op hT hC rfl rfl rfl rfl trivial ?_
    obtain ⟨hq, h⟩ := req_some h
    refine v_op hT hC rfl rfl rfl rfl hq ?_
    refine v_op hT hC rfl rfl rfl rfl trivial ?_
    obtain ⟨q7, hq, h⟩ := bnd_some h
    refine v_call hC [] rfl rfl rfl rfl Tryz.call68 (spec_Escaped_ac hq) rfl (by decide) trivial rfl (.inl rfl) rfl ?_
    iterate 5 refine v_op hT hC rfl rfl rfl rfl trivial ?_
    refine Vc.nil ?_
    refine s_in ?_
    refine s_reg ?_
    iterate 2 refine v_op hT hC rfl rfl rfl rfl trivial ?_
    refine Vc.nil ?_
    rcases sel_some h with ⟨hb9, h⟩ | ⟨hb9, h⟩
    ·
     refine s_true rfl hb9 ?_
     refine s_reg ?_
     iterate 2 refine v_op hT hC rfl rfl rfl rfl trivial ?_
     refine Vc.nil ?_
     refine aw_ret ?_
     refine t_ret ?_
     refine b_ret ?_
     refine t_ret ?_
     injection h with h
     subst h
     refine r_ret ?_
     refine o_ret ?_
     exact ends (Weak.refl _) rfl trivial
    ·
     refine s_false rfl hb9 ?_
     refine aw_skip ?_
     refine t_norm ?_
     refine s_reg ?_
     iterate 2 refine v_op hT hC rfl rfl rfl rfl trivial ?_
     obtain ⟨hq, h⟩ := req_some h
     refine v_op hT hC rfl rfl rfl rfl ⟨trivial, hq⟩ ?_
     refine v_op hT hC rfl rfl rfl rfl trivial ?_
     refine Vc.nil ?_
     refine s_reg ?_
     iterate 2 refine v_op hT hC rfl rfl rfl rfl trivial ?_
     obtain ⟨hq, h⟩ := req_some h
     refine v_op hT hC rfl rfl rfl rfl ⟨trivial, hq⟩ ?_
     refine v_op hT hC rfl rfl rfl rfl trivial ?_
     refine Vc.nil ?_
     refine s_reg ?_
     iterate 3 refine v_op hT hC rfl rfl rfl rfl trivial ?_
     refine Vc.nil ?_
     rcases sel_some h with ⟨hb10, h⟩ | ⟨hb10, h⟩
     ·
      refine s_true rfl hb10 ?_
      refine s_reg ?_
      iterate 2 refine v_op hT hC rfl rfl rfl rfl trivial ?_
      refine Vc.nil ?_
      refine aw_ret ?_
      refine b_ret ?_
      refine t_ret ?_
      injection h with h
      subst h
      refine r_ret ?_
      refine o_ret ?_
      exact ends (Weak.refl _) rfl trivial
     ·
      refine s_false rfl hb10 ?_
      refine aw_skip ?_
      refine b_norm ?_
      refine t_norm ?_
      refine aw_region ?_
      iterate 3 refine v_op hT hC rfl rfl rfl rfl trivial ?_
      refine Vc.nil ?_
      injection h with h
      subst h
      refine r_go ?_
      try dsimp only
      apply w_conv hC [(176, 528)]
      ·
       exact co
      ·
       rfl
      ·
       decide
      ·
       rfl
   ·
    refine s_false rfl hb8 ?_
    refine aw_exit ?_
    refine t_exit ?_
    injection h with h
    subst h
    refine r_exit ?_
    refine o_both ?_
    apply w_conv hC []
    ·
     exact co
    ·
     rfl
    ·
     decide
    ·
     rfl
  ·
   intro v6 e
   subst e
   refine t_norm ?_
   refine s_reg ?_
   iterate 4 refine v_op hT hC rfl rfl rfl rfl trivial ?_
   refine Vc.nil ?_
   refine aw_ret ?_
   injection h with h
   subst h
   exact ends (Weak.refl _) rfl trivial
  ·
   intro r' σ' e hE
   subst e
   injection h with h
   subst h
   refine t_ret ?_
   exact hE
def spec_SeqPlus_res (r : Int) : AV := .sv (.int .i64 r)
def spec_SeqPlus_obs (r : Int) : Objs := []
theorem spec_SeqPlus_ac {p0 : Int} {p1 : Int} {r : Int} (h : spec_SeqPlus p0 p1 = some r) : AC Tryz.prog 51 [.sv (.int .i64 p0), .sv (.int .i64 p1)] [] (spec_SeqPlus_res r) (spec_SeqPlus_obs r) := by
 refine ac_of_body hT Tryz.func51 rfl fun C hC => ?_
 unfold spec_SeqPlus at h
 refine s_reg ?_
 refine v_op hT hC rfl rfl rfl rfl trivial ?_
 refine Vc.nil ?_
 refine s_in ?_
 refine live [0, 1] [] (s' := [_, _]) (o' := []) rfl rfl ?_
 obtain ⟨v1, h1, h⟩ := bnd_some h
 refine aw_to ([(12, .sv (.bool v1))], []) ?_ ?_
 ·
  have h := h1
  refine aw_region ?_
  refine v_op hT hC rfl rfl rfl rfl trivial ?_
  obtain ⟨q2, hq, h⟩ := bnd_some h
  refine v_call hC [] rfl rfl rfl rfl Tryz.call48 (spec_l01In_ac hq) rfl (by decide) trivial rfl (.inl rfl) rfl ?_
  iterate 2 refine v_op hT hC rfl rfl rfl rfl trivial ?_
  rcases sel_some h with ⟨hb1, h⟩ | ⟨hb1, h⟩
  ·
   refine v_on hT hC rfl rfl rfl rfl (congrArg Bool.not hb1) rfl rfl rfl trivial ?_
   obtain ⟨q3, hq, h⟩ := bnd_some h
   refine v_call_on hC [] rfl rfl rfl rfl (congrArg Bool.not hb1) rfl rfl rfl Tryz.call48 (spec_l01In_ac hq) rfl (by decide) trivial rfl (.inl rfl) rfl ?_
   refine v_on hT hC rfl rfl rfl rfl (congrArg Bool.not hb1) rfl rfl rfl trivial ?_
   refine v_pick hC rfl rfl rfl (b := false) (congrArg Bool.not hb1) rfl rfl rfl trivial ?_
   refine Vc.nil ?_
   injection h with h
   subst h
   refine m_norm ?_
   apply w_conv hC []
   ·
    exact co
   ·
    rfl
   ·
    decide
   ·
    rfl
  ·
   refine v_off hC rfl rfl rfl rfl (congrArg Bool.not hb1) rfl rfl ?_
   refine v_off hC rfl rfl rfl rfl (congrArg Bool.not hb1) rfl rfl ?_
   refine v_off hC rfl rfl rfl rfl (congrArg Bool.not hb1) rfl rfl ?_
   refine v_pick hC rfl rfl rfl (b := true) (congrArg Bool.not hb1) rfl rfl rfl trivial ?_
   refine Vc.nil ?_
   injection h with h
   subst h
   refine m_norm ?_
   apply w_conv hC []
   ·
    exact co
   ·
    rfl
   ·
    decide
   ·
    rfl
 rcases sel_some h with ⟨hb2, h⟩ | ⟨hb2, h⟩
 ·
  refine s_true rfl hb2 ?_
  refine s_reg ?_
  refine v_op hT hC rfl rfl rfl rfl trivial ?_
  refine Vc.nil ?_
  refine aw_ret ?_
  refine t_ret ?_
  injection h with h
  subst h
  exact ends (Weak.refl _) rfl trivial
 ·
  refine s_false rfl hb2 ?_
  refine aw_skip ?_
  refine t_norm ?_
  refine s_reg ?_
  iterate 3 refine v_op hT hC rfl rfl rfl rfl trivial ?_
  obtain ⟨hq, h⟩ := req_some h
  refine v_op hT hC rfl rfl rfl rfl hq ?_
  refine v_op hT hC rfl rfl rfl rfl trivial ?_
  refine Vc.nil ?_
  refine aw_ret ?_
  injection h with h
  subst h
  exact ends (Weak.refl _) rfl trivial
def spec_PacketsOf_res (r : ((List Packet) × Bool)) : AV := .tup [.own 16, .sv (.bool r.2)]
def spec_PacketsOf_obs (r : ((List Packet) × Bool)) : Objs := [(16, .row cPacket r.1)]
theorem spec_PacketsOf_ac {p0 : (List ByteArray)} {p1 : Int} {p2 : Int} {r : ((List Packet) × Bool)} (h : spec_PacketsOf p0 p1 p2 = some r) : AC Tryz.prog 34 [.sv (cByteArray.sv p0), .sv (.int .i64 p1), .sv (.int .i64 p2)] [] (spec_PacketsOf_res r) (spec_PacketsOf_obs r) := by
 refine ac_of_body hT Tryz.func34 rfl fun C hC => ?_
 unfold spec_PacketsOf at h
 refine s_reg ?_
 iterate 2 refine v_op hT hC rfl rfl rfl rfl trivial ?_
 refine Vc.nil ?_
 refine s_reg ?_
 iterate 2 refine v_op hT hC rfl rfl rfl rfl trivial ?_
 refine Vc.nil ?_
 refine s_in ?_
 refine live [0, 1, 2, 8] [208] (s' := [_, _, _, _]) (o' := [_]) rfl rfl ?_
 obtain ⟨v1, h1, h⟩ := bnd_some h
 refine aw_to ([(21, .sv (.bool v1))], []) ?_ ?_
 ·
  have h := h1
  refine aw_region ?_
  refine v_op hT hC rfl rfl rfl rfl trivial ?_
  obtain ⟨q2, hq, h⟩ := bnd_some h
  refine v_call hC [] rfl rfl rfl rfl Tryz.call48 (spec_l01In_ac hq) rfl (by decide) trivial rfl (.inl rfl) rfl ?_
  iterate 2 refine v_op hT hC rfl rfl rfl rfl trivial ?_
  rcases sel_some h with ⟨hb1, h⟩ | ⟨hb1, h⟩
  ·
   refine v_on hT hC rfl rfl rfl rfl (congrArg Bool.not hb1) rfl rfl rfl trivial ?_
   obtain ⟨q3, hq, h⟩ := bnd_some h
   refine v_call_on hC [] rfl rfl rfl rfl (congrArg Bool.not hb1) rfl rfl rfl Tryz.call48 (spec_l01In_ac hq) rfl (by decide) trivial rfl (.inl rfl) rfl ?_
   refine v_on hT hC rfl rfl rfl rfl (congrArg Bool.not hb1) rfl rfl rfl trivial ?_
   refine v_pick hC rfl rfl rfl (b := false) (congrArg Bool.not hb1) rfl rfl rfl trivial ?_
   refine Vc.nil ?_
   injection h with h
   subst h
   refine m_norm ?_
   apply w_conv hC []
   ·
    exact co
   ·
    rfl
   ·
    decide
   ·
    rfl
  ·
   refine v_off hC rfl rfl rfl rfl (congrArg Bool.not hb1) rfl rfl ?_
   refine v_off hC rfl rfl rfl rfl (congrArg Bool.not hb1) rfl rfl ?_
   refine v_off hC rfl rfl rfl rfl (congrArg Bool.not hb1) rfl rfl ?_
   refine v_pick hC rfl rfl rfl (b := true) (congrArg Bool.not hb1) rfl rfl rfl trivial ?_
   refine Vc.nil ?_
   injection h with h
   subst h
   refine m_norm ?_
   apply w_conv hC []
   ·
    exact co
   ·
    rfl
   ·
    decide
   ·
    rfl
 rcases sel_some h with ⟨hb2, h⟩ | ⟨hb2, h⟩
 ·
  refine s_true rfl hb2 ?_
  refine s_reg ?_
  iterate 3 refine v_op hT hC rfl rfl rfl rfl trivial ?_
  refine Vc.nil ?_
  refine aw_ret ?_
  refine t_ret ?_
  injection h with h
  subst h
  refine ends (τ := ⟨[(6, .own 16), (7, .sv (.bool false))], [(16, some (.row cPacket ([] : List Packet)))]⟩) ?_ rfl ⟨rfl, trivial⟩
  apply w_conv hC [(16, 208)]
  ·
   exact co
  ·
   rfl
  ·
   decide
  ·
   rfl
 ·
  refine s_false rfl hb2 ?_
  refine aw_skip ?_
  refine t_norm ?_
  refine s_reg ?_
  refine v_op hT hC rfl rfl rfl rfl trivial ?_
  obtain ⟨q4, hq, h⟩ := bnd_some h
  refine v_call hC [] rfl rfl rfl rfl Tryz.call49 (spec_Framed_ac hq) rfl (by decide) trivial rfl (.inl rfl) rfl ?_
  iterate 5 refine v_op hT hC rfl rfl rfl rfl trivial ?_
  refine Vc.nil ?_
  refine s_in ?_
  refine live [1, 2, 8, 9, 10] [208] (s' := [_, _, _, _, _]) (o' := [_]) rfl rfl ?_
  obtain ⟨v5, h1, h⟩ := bnd_some h
  refine aw_to ([(44, .sv (.bool v5)), (10, .any)], []) ?_ ?_
  ·
   have h := h1
   refine aw_region ?_
   iterate 3 refine v_op hT hC rfl rfl rfl rfl trivial ?_
   rcases sel_some h with ⟨hb3, h⟩ | ⟨hb3, h⟩
   ·
    iterate 3 refine v_on hT hC rfl rfl rfl rfl (congrArg Bool.not hb3) rfl rfl rfl trivial ?_
    refine v_pick hC rfl rfl rfl (b := false) (congrArg Bool.not hb3) rfl rfl rfl trivial ?_
    refine v_op hT hC rfl rfl rfl rfl trivial ?_
    rcases sel_some h with ⟨hb4, h⟩ | ⟨hb4, h⟩
    ·
     refine v_off hC rfl rfl rfl rfl hb4 rfl rfl ?_
     refine v_off hC rfl rfl rfl rfl hb4 rfl rfl ?_
     refine v_off hC rfl rfl rfl rfl hb4 rfl rfl ?_
     refine v_off hC rfl rfl rfl rfl hb4 rfl rfl ?_
     refine v_off hC rfl rfl rfl rfl hb4 rfl rfl ?_
     refine v_off hC rfl rfl rfl rfl hb4 rfl rfl ?_
     refine v_off hC rfl rfl rfl rfl hb4 rfl rfl ?_
     refine v_off hC rfl rfl rfl rfl hb4 rfl rfl ?_
     refine v_pick hC rfl rfl rfl (b := true) hb4 rfl rfl rfl trivial ?_
     refine Vc.nil ?_
     injection h with h
     subst h
     refine m_norm ?_
     apply w_conv hC []
     ·
      exact co
     ·
      rfl
     ·
      decide
     ·
      rfl
    ·
     iterate 6 refine v_on hT hC rfl rfl rfl rfl hb4 rfl rfl rfl trivial ?_
     obtain ⟨hq, h⟩ := req_some h
     refine v_on hT hC rfl rfl rfl rfl hb4 rfl rfl rfl hq ?_
     refine v_on hT hC rfl rfl rfl rfl hb4 rfl rfl rfl trivial ?_
     refine v_pick hC rfl rfl rfl (b := false) hb4 rfl rfl rfl trivial ?_
     refine Vc.nil ?_
     injection h with h
     subst h
     refine m_norm ?_
     apply w_conv hC []
     ·
      exact co
     ·
      rfl
     ·
      decide
     ·
      rfl
   ·
    refine v_off hC rfl rfl rfl rfl (congrArg Bool.not hb3) rfl rfl ?_
    refine v_off hC rfl rfl rfl rfl (congrArg Bool.not hb3) rfl rfl ?_
    refine v_off hC rfl rfl rfl rfl (congrArg Bool.not hb3) rfl rfl ?_
    refine v_pick hC rfl rfl rfl (b := true) (congrArg Bool.not hb3) rfl rfl rfl trivial ?_
    refine v_op hT hC rfl rfl rfl rfl trivial ?_
    refine v_off hC rfl rfl rfl rfl rfl rfl rfl ?_
    refine v_off hC rfl rfl rfl rfl rfl rfl rfl ?_
    refine v_off hC rfl rfl rfl rfl rfl rfl rfl ?_
    refine v_off hC rfl rfl rfl rfl rfl rfl rfl ?_
    refine v_off hC rfl rfl rfl rfl rfl rfl rfl ?_
    refine v_off hC rfl rfl rfl rfl rfl rfl rfl ?_
    refine v_off hC rfl rfl rfl rfl rfl rfl rfl ?_
    refine v_off hC rfl rfl rfl rfl rfl rfl rfl ?_
    refine v_op hT hC rfl rfl rfl rfl trivial ?_
    refine Vc.nil ?_
    injection h with h
    subst h
    refine m_norm ?_
    apply w_conv hC []
    ·
     exact co
    ·
     rfl
    ·
     decide
    ·
     rfl
  rcases sel_some h with ⟨hb5, h⟩ | ⟨hb5, h⟩
  ·
   refine s_true rfl hb5 ?_
   refine s_reg ?_
   iterate 3 refine v_op hT hC rfl rfl rfl rfl trivial ?_
   refine Vc.nil ?_
   refine aw_ret ?_
   refine t_ret ?_
   injection h with h
   subst h
   refine ends (τ := ⟨[(6, .own 16), (7, .sv (.bool false))], [(16, some (.row cPacket ([] : List Packet)))]⟩) ?_ rfl ⟨rfl, trivial⟩
   apply w_conv hC [(16, 208)]
   ·
    exact co
   ·
    rfl
   ·
    decide
   ·
    rfl
  ·
   refine s_false rfl hb5 ?_
   refine aw_skip ?_
   refine t_norm ?_
   refine s_in ?_
   refine s_reg ?_
   refine v_op hT hC rfl rfl rfl rfl trivial ?_
   refine Vc.nil ?_
   refine live [1, 2, 8, 9, 11] [208] (s' := [_, _, _, _, _]) (o' := [_]) rfl rfl ?_
   obtain ⟨v13, hl, h⟩ := bnd_some h
   refine s_loop (fun v9 => ([(11, .sv (.int .i64 v9.1))], [(208, some (.row cPacket v9.2))])) (fun v13 => ([(1, .any), (2, .any), (9, .any), (11, .any)], [(208, some (.row cPacket v13))])) hl ?_ ?_ ?_
   ·
    try dsimp only
    apply w_conv hC []
    ·
     exact co
    ·
     rfl
    ·
     decide
    ·
     rfl
   ·
    intro v9 s hs
    have h := hs
    unfold spec_PacketsOf_l2 at h
    refine s_in ?_
    refine s_reg ?_
    iterate 4 refine v_op hT hC rfl rfl rfl rfl trivial ?_
    refine Vc.nil ?_
    rcases sel_some h with ⟨hb8, h⟩ | ⟨hb8, h⟩
    ·
     refine s_true rfl hb8 ?_
     refine aw_skip ?_
     refine t_norm ?_
     refine s_in ?_
     refine s_block ?_
     refine s_reg ?_
     iterate 5 refine v_op hT hC rfl rfl rfl rfl trivial ?_
     obtain ⟨q14, hq, h⟩ := bnd_some h
     refine v_call hC [] rfl rfl rfl rfl Tryz.call50 (spec_Brought_ac hq) rfl (by decide) trivial rfl (.inl rfl) rfl ?_
     refine v_op hT hC rfl rfl rfl rfl trivial ?_
     refine Vc.nil ?_
     refine aw_draw hm ?_
     iterate 4 refine v_op hT hC rfl rfl rfl rfl trivial ?_
     obtain ⟨q15, hq, h⟩ := bnd_some h
     refine v_call hC [] rfl rfl rfl rfl Tryz.call51 (spec_SeqPlus_ac hq) rfl (by decide) trivial rfl (.inl rfl) rfl ?_
     iterate 9 refine v_op hT hC rfl rfl rfl rfl trivial ?_
     obtain ⟨hq, h⟩ := req_some h
     refine v_op hT hC rfl rfl rfl rfl hq ?_
     iterate 2 refine v_op hT hC rfl rfl rfl rfl trivial ?_
     obtain ⟨hq, h⟩ := req_some h
     refine v_op hT hC rfl rfl rfl rfl ⟨fun _ _ => rfl, by rw [cPacket_id]; exact hq⟩ ?_
     rw [cPacket_id]
     refine v_op hT hC rfl rfl rfl rfl trivial ?_
     refine Vc.nil ⟨by kernel_rfl, ?_⟩
     refine b_norm ?_
     refine t_norm ?_
     refine aw_region ?_
     iterate 4 refine v_op hT hC rfl rfl rfl rfl trivial ?_
     refine Vc.nil ?_
     injection h with h
     subst h
     refine r_go ?_
     try dsimp only
     apply w_conv hC [(208, 1216)]
     ·
      exact co
     ·
      rfl
     ·
      decide
     ·
      rfl
    ·
     refine s_false rfl hb8 ?_
     refine aw_exit ?_
     refine t_exit ?_
     injection h with h
     subst h
     refine r_exit ?_
     refine o_out ?_
     apply w_conv hC []
     ·
      exact co
     ·
      rfl
     ·
      decide
     ·
      rfl
   refine t_norm ?_
   refine s_reg ?_
   iterate 3 refine v_op hT hC rfl rfl rfl rfl trivial ?_
   refine Vc.nil ?_
   refine aw_ret ?_
   injection h with h
   subst h
   refine ends (τ := ⟨[(6, .own 16), (7, .sv (.bool true))], [(16, some (.row cPacket v13))]⟩) ?_ rfl ⟨rfl, trivial⟩
   apply w_conv hC [(16, 208)]
   ·
    exact co
   ·
    rfl
   ·
    decide
   ·
    rfl
def spec_l22List_res (r : ((List Packet) × L01Cur)) : AV := .own 16
def spec_l22List_obs (r : ((List Packet) × L01Cur)) : Objs := [(16, .row cPacket r.1), (0, .box [.sv (.ints .u8 r.2.b_), .sv (.int .i64 r.2.i_), .sv (.int .i64 r.2.h_)])]
theorem spec_l22List_ac {p0 : L01Cur} {r : ((List Packet) × L01Cur)} (h : spec_l22List p0 = some r) : AC Tryz.prog 19 [.ptr 0 0] [(0, .box [.sv (.ints .u8 p0.b_), .sv (.int .i64 p0.i_), .sv (.int .i64 p0.h_)])] (spec_l22List_res r) (spec_l22List_obs r) := by
 refine ac_of_body hT Tryz.func19 rfl fun C hC => ?_
 unfold spec_l22List at h
 refine s_reg ?_
 refine v_op hT hC rfl rfl rfl rfl trivial ?_
 refine Vc.nil ?_
 refine s_reg ?_
 refine v_op hT hC rfl rfl rfl rfl trivial ?_
 obtain ⟨q1, hq, h⟩ := bnd_some h
 refine v_call hC [(16, 112), (0, 0)] rfl rfl rfl rfl Tryz.call31 (spec_l04Units_ac hq) rfl (by decide) ⟨rfl, trivial⟩ rfl (.inl rfl) rfl ?_
 refine v_op hT hC rfl rfl rfl rfl trivial ?_
 refine Vc.nil ?_
 refine live [0, 3] [0, 112] (s' := [_, _]) (o' := [_, _]) rfl rfl ?_
 obtain ⟨v2, h1, h⟩ := bnd_some h
 refine aw_to ([], [(0, some (.box [.sv (.ints .u8 v2.1), .sv (.int .i64 v2.2.1), .sv (.int .i64 v2.2.2.1)])), (112, some (.row cByteArray v2.2.2.2))]) ?_ ?_
 ·
  have h := h1
  refine s_reg ?_
  refine v_op hT hC rfl rfl rfl rfl trivial ?_
  obtain ⟨q3, hq, h⟩ := bnd_some h
  refine v_call hC [(0, 0)] rfl rfl rfl rfl Tryz.call32 (spec_l01Once_ac hq) rfl (by decide) ⟨rfl, trivial⟩ rfl (.inl rfl) rfl ?_
  refine Vc.nil ?_
  rcases sel_some h with ⟨hb1, h⟩ | ⟨hb1, h⟩
  ·
   refine s_true rfl hb1 ?_
   refine aw_region ?_
   refine v_op hT hC rfl rfl rfl rfl trivial ?_
   obtain ⟨q4, hq, h⟩ := bnd_some h
   refine v_call hC [(16, 192), (17, 193), (18, 194), (0, 0)] rfl rfl rfl rfl Tryz.call33 (spec_l19Right_ac hq) rfl (by decide) ⟨rfl, trivial⟩ rfl (.inl rfl) rfl ?_
   iterate 4 refine v_op hT hC rfl rfl rfl rfl trivial ?_
   refine Vc.nil ?_
   injection h with h
   subst h
   refine m_norm ?_
   try dsimp only
   apply w_conv hC [(112, 194)]
   ·
    exact co
   ·
    rfl
   ·
    decide
   ·
    rfl
  ·
   refine s_false rfl hb1 ?_
   refine aw_skip ?_
   injection h with h
   subst h
   refine m_norm ?_
   try dsimp only
   apply w_conv hC []
   ·
    exact co
   ·
    rfl
   ·
    decide
   ·
    rfl
 refine s_reg ?_
 iterate 2 refine v_op hT hC rfl rfl rfl rfl trivial ?_
 obtain ⟨q5, hq, h⟩ := bnd_some h
 refine v_call hC [(0, 0)] rfl rfl rfl rfl Tryz.call35 (spec_l22Seq_ac hq) rfl (by decide) ⟨rfl, trivial⟩ rfl (.inl rfl) rfl ?_
 refine v_op hT hC rfl rfl rfl rfl trivial ?_
 refine v_shut hT hC rfl rfl rfl rfl trivial rfl ?_
 obtain ⟨q6, hq, h⟩ := bnd_some h
 refine v_call hC [(0, 0)] rfl rfl rfl rfl Tryz.call36 (spec_l01PickInt_ac hq) rfl (by decide) ⟨rfl, trivial⟩ rfl (.inl rfl) rfl ?_
 obtain ⟨q7, hq, h⟩ := bnd_some h
 refine v_call hC [(16, 352)] rfl rfl rfl rfl Tryz.call34 (spec_PacketsOf_ac hq) rfl (by decide) trivial rfl (.inr ⟨rfl, ⟨fun _ => rfl, trivial⟩⟩) rfl ?_
 iterate 5 refine v_op hT hC rfl rfl rfl rfl trivial ?_
 refine Vc.nil ?_
 refine s_reg ?_
 iterate 2 refine v_op hT hC rfl rfl rfl rfl trivial ?_
 refine Vc.nil ?_
 refine aw_ret ?_
 injection h with h
 subst h
 refine ends (τ := ⟨[(2, .own 16)], [(16, some (.row cPacket q7.1)), (0, some (.box [.sv (.ints .u8 q6.2.b_), .sv (.int .i64 q6.2.i_), .sv (.int .i64 q6.2.h_)]))]⟩) ?_ rfl ⟨rfl, rfl, trivial⟩
 apply w_conv hC [(16, 352)]
 ·
  exact co
 ·
  rfl
 ·
  decide
 ·
  rfl
def spec_DrawPicture_res (r : (List Packet)) : AV := .own 16
def spec_DrawPicture_obs (r : (List Packet)) : Objs := [(16, .row cPacket r)]
theorem spec_DrawPicture_ac {p0 : (List Int)} {r : (List Packet)} (h : spec_DrawPicture p0 = some r) : AC Tryz.prog 6 [.sv (.ints .u8 p0)] [] (spec_DrawPicture_res r) (spec_DrawPicture_obs r) := by
 refine ac_of_body hT Tryz.func6 rfl fun C hC => ?_
 unfold spec_DrawPicture at h
 refine s_reg ?_
 refine v_op hT hC rfl rfl rfl rfl trivial ?_
 refine Vc.nil ?_
 refine s_reg ?_
 refine v_op hT hC rfl rfl rfl rfl trivial ?_
 obtain ⟨q1, hq, h⟩ := bnd_some h
 refine v_call hC [(16, 80)] rfl rfl rfl rfl Tryz.call20 (spec_l01New_ac hq) rfl (by decide) trivial rfl (.inl rfl) rfl ?_
 obtain ⟨q2, hq, h⟩ := bnd_some h
 refine v_call hC [(16, 96), (0, 80)] rfl rfl rfl rfl Tryz.call19 (spec_l22List_ac hq) rfl (by decide) ⟨rfl, trivial⟩ rfl (.inl rfl) rfl ?_
 refine v_op hT hC rfl rfl rfl rfl trivial ?_
 refine Vc.nil ?_
 refine s_in ?_
 refine live [3] [96] (s' := [_]) (o' := [_]) rfl rfl ?_
 obtain ⟨v3, h1, h⟩ := bnd_some h
 refine aw_to ([(14, .sv (.bool v3))], []) ?_ ?_
 ·
  have h := h1
  refine aw_region ?_
  iterate 4 refine v_op hT hC rfl rfl rfl rfl trivial ?_
  rcases sel_some h with ⟨hb1, h⟩ | ⟨hb1, h⟩
  ·
   refine v_off hC rfl rfl rfl rfl hb1 rfl rfl ?_
   refine v_off hC rfl rfl rfl rfl hb1 rfl rfl ?_
   refine v_off hC rfl rfl rfl rfl hb1 rfl rfl ?_
   refine v_pick hC rfl rfl rfl (b := true) hb1 rfl rfl rfl trivial ?_
   refine Vc.nil ?_
   injection h with h
   subst h
   refine m_norm ?_
   apply w_conv hC []
   ·
    exact co
   ·
    rfl
   ·
    decide
   ·
    rfl
  ·
   iterate 3 refine v_on hT hC rfl rfl rfl rfl hb1 rfl rfl rfl trivial ?_
   refine v_pick hC rfl rfl rfl (b := false) hb1 rfl rfl rfl trivial ?_
   refine Vc.nil ?_
   injection h with h
   subst h
   refine m_norm ?_
   apply w_conv hC []
   ·
    exact co
   ·
    rfl
   ·
    decide
   ·
    rfl
 rcases sel_some h with ⟨hb2, h⟩ | ⟨hb2, h⟩
 ·
  refine s_true rfl hb2 ?_
  refine s_reg ?_
  iterate 2 refine v_op hT hC rfl rfl rfl rfl trivial ?_
  refine Vc.nil ?_
  refine aw_ret ?_
  refine t_ret ?_
  injection h with h
  subst h
  refine ends (τ := ⟨[(2, .own 16)], [(16, some (.row cPacket ([] : List Packet)))]⟩) ?_ rfl ⟨rfl, trivial⟩
  apply w_conv hC [(16, 240)]
  ·
   exact co
  ·
   rfl
  ·
   decide
  ·
   rfl
 ·
  refine s_false rfl hb2 ?_
  refine aw_skip ?_
  refine t_norm ?_
  refine s_reg ?_
  iterate 2 refine v_op hT hC rfl rfl rfl rfl trivial ?_
  refine Vc.nil ?_
  refine aw_ret ?_
  injection h with h
  subst h
  refine ends (τ := ⟨[(2, .own 16)], [(16, some (.row cPacket q2.1))]⟩) ?_ rfl ⟨rfl, trivial⟩
  apply w_conv hC [(16, 96)]
  ·
   exact co
  ·
   rfl
  ·
   decide
  ·
   rfl
def impl_within_res (r : Bool) : AV := .sv (.bool r)
def impl_within_obs (r : Bool) : Objs := []
theorem impl_within_ac {p0 : Int} {p1 : Int} {p2 : Int} {r : Bool} (h : impl_within p0 p1 p2 = some r) : AC Tryz.prog 26 [.sv (.int .i64 p0), .sv (.int .i64 p1), .sv (.int .i64 p2)] [] (impl_within_res r) (impl_within_obs r) := by
 refine ac_of_body hT Tryz.func26 rfl fun C hC => ?_
 unfold impl_within at h
 refine s_reg ?_
 refine v_op hT hC rfl rfl rfl rfl trivial ?_
 refine Vc.nil ?_
 refine live [0, 1, 2, 6] [] (s' := [_, _, _, _]) (o' := []) rfl rfl ?_
 obtain ⟨v1, h1, h⟩ := bnd_some h
 refine aw_to ([(6, .sv (.bool v1)), (0, .any), (1, .any), (2, .any)], []) ?_ ?_
 ·
  have h := h1
  refine aw_region ?_
  iterate 4 refine v_op hT hC rfl rfl rfl rfl trivial ?_
  rcases sel_some h with ⟨hb1, h⟩ | ⟨hb1, h⟩
  ·
   iterate 3 refine v_on hT hC rfl rfl rfl rfl hb1 rfl rfl rfl trivial ?_
   refine v_pick hC rfl rfl rfl (b := true) hb1 rfl rfl rfl trivial ?_
   refine v_op hT hC rfl rfl rfl rfl trivial ?_
   refine Vc.nil ?_
   injection h with h
   subst h
   refine m_norm ?_
   apply w_conv hC []
   ·
    exact co
   ·
    rfl
   ·
    decide
   ·
    rfl
  ·
   refine v_off hC rfl rfl rfl rfl hb1 rfl rfl ?_
   refine v_off hC rfl rfl rfl rfl hb1 rfl rfl ?_
   refine v_off hC rfl rfl rfl rfl hb1 rfl rfl ?_
   refine v_pick hC rfl rfl rfl (b := false) hb1 rfl rfl rfl trivial ?_
   refine v_op hT hC rfl rfl rfl rfl trivial ?_
   refine Vc.nil ?_
   injection h with h
   subst h
   refine m_norm ?_
   apply w_conv hC []
   ·
    exact co
   ·
    rfl
   ·
    decide
   ·
    rfl
 refine aw_ret ?_
 injection h with h
 subst h
 exact ends (Weak.refl _) rfl trivial
def impl_isNumber_res (r : Bool) : AV := .sv (.bool r)
def impl_isNumber_obs (r : Bool) : Objs := []
theorem impl_isNumber_ac {p0 : Int} {r : Bool} (h : impl_isNumber p0 = some r) : AC Tryz.prog 28 [.sv (.int .i64 p0)] [] (impl_isNumber_res r) (impl_isNumber_obs r) := by
 refine ac_of_body hT Tryz.func28 rfl fun C hC => ?_
 unfold impl_isNumber at h
 refine s_reg ?_
 refine v_op hT hC rfl rfl rfl rfl trivial ?_
 refine Vc.nil ?_
 refine s_reg ?_
 refine v_op hT hC rfl rfl rfl rfl trivial ?_
 obtain ⟨q1, hq, h⟩ := bnd_some h
 refine v_call hC [] rfl rfl rfl rfl Tryz.call26 (impl_within_ac hq) rfl (by decide) trivial rfl (.inl rfl) rfl ?_
 refine v_op hT hC rfl rfl rfl rfl trivial ?_
 refine Vc.nil ?_
 refine aw_ret ?_
 injection h with h
 subst h
 exact ends (Weak.refl _) rfl trivial
def impl_SeqGap_res (r : Int) : AV := .sv (.int .i64 r)
def impl_SeqGap_obs (r : Int) : Objs := []
theorem impl_SeqGap_ac {p0 : Int} {p1 : Int} {r : Int} (h : impl_SeqGap p0 p1 = some r) : AC Tryz.prog 18 [.sv (.int .i64 p0), .sv (.int .i64 p1)] [] (impl_SeqGap_res r) (impl_SeqGap_obs r) := by
 refine ac_of_body hT Tryz.func18 rfl fun C hC => ?_
 unfold impl_SeqGap at h
 refine s_reg ?_
 refine v_op hT hC rfl rfl rfl rfl trivial ?_
 refine Vc.nil ?_
 refine s_in ?_
 refine live [0, 1] [] (s' := [_, _]) (o' := []) rfl rfl ?_
 obtain ⟨v1, h1, h⟩ := bnd_some h
 refine aw_to ([(13, .sv (.bool v1))], []) ?_ ?_
 ·
  have h := h1
  refine aw_region ?_
  refine v_op hT hC rfl rfl rfl rfl trivial ?_
  obtain ⟨q2, hq, h⟩ := bnd_some h
  refine v_call hC [] rfl rfl rfl rfl Tryz.call28 (impl_isNumber_ac hq) rfl (by decide) trivial rfl (.inl rfl) rfl ?_
  iterate 2 refine v_op hT hC rfl rfl rfl rfl trivial ?_
  rcases sel_some h with ⟨hb1, h⟩ | ⟨hb1, h⟩
  ·
   refine v_on hT hC rfl rfl rfl rfl (congrArg Bool.not hb1) rfl rfl rfl trivial ?_
   obtain ⟨q3, hq, h⟩ := bnd_some h
   refine v_call_on hC [] rfl rfl rfl rfl (congrArg Bool.not hb1) rfl rfl rfl Tryz.call28 (impl_isNumber_ac hq) rfl (by decide) trivial rfl (.inl rfl) rfl ?_
   refine v_on hT hC rfl rfl rfl rfl (congrArg Bool.not hb1) rfl rfl rfl trivial ?_
   refine v_pick hC rfl rfl rfl (b := false) (congrArg Bool.not hb1) rfl rfl rfl trivial ?_
   refine Vc.nil ?_
   injection h with h
   subst h
   refine m_norm ?_
   apply w_conv hC []
   ·
    exact co
   ·
    rfl
   ·
    decide
   ·
    rfl
  ·
   refine v_off hC rfl rfl rfl rfl (congrArg Bool.not hb1) rfl rfl ?_
   refine v_off hC rfl rfl rfl rfl (congrArg Bool.not hb1) rfl rfl ?_
   refine v_off hC rfl rfl rfl rfl (congrArg Bool.not hb1) rfl rfl ?_
   refine v_pick hC rfl rfl rfl (b := true) (congrArg Bool.not hb1) rfl rfl rfl trivial ?_
   refine Vc.nil ?_
   injection h with h
   subst h
   refine m_norm ?_
   apply w_conv hC []
   ·
    exact co
   ·
    rfl
   ·
    decide
   ·
    rfl
 rcases sel_some h with ⟨hb2, h⟩ | ⟨hb2, h⟩
 ·
  refine s_true rfl hb2 ?_
  refine s_reg ?_
  refine v_op hT hC rfl rfl rfl rfl trivial ?_
  refine Vc.nil ?_
  refine aw_ret ?_
  refine t_ret ?_
  injection h with h
  subst h
  exact ends (Weak.refl _) rfl trivial
 ·
  refine s_false rfl hb2 ?_
  refine aw_skip ?_
  refine t_norm ?_
  refine s_reg ?_
  iterate 4 refine v_op hT hC rfl rfl rfl rfl trivial ?_
  obtain ⟨hq, h⟩ := req_some h
  refine v_op hT hC rfl rfl rfl rfl hq ?_
  refine v_op hT hC rfl rfl rfl rfl trivial ?_
  refine Vc.nil ?_
  refine live [5] [] (s' := [_]) (o' := []) rfl rfl ?_
  obtain ⟨v4, h1, h⟩ := bnd_some h
  refine aw_to ([(5, .sv (.int .i64 v4))], []) ?_ ?_
  ·
   have h := h1
   refine s_reg ?_
   iterate 2 refine v_op hT hC rfl rfl rfl rfl trivial ?_
   refine Vc.nil ?_
   rcases sel_some h with ⟨hb3, h⟩ | ⟨hb3, h⟩
   ·
    refine s_true rfl hb3 ?_
    refine aw_region ?_
    iterate 3 refine v_op hT hC rfl rfl rfl rfl trivial ?_
    refine Vc.nil ?_
    injection h with h
    subst h
    refine m_norm ?_
    apply w_conv hC []
    ·
     exact co
    ·
     rfl
    ·
     decide
    ·
     rfl
   ·
    refine s_false rfl hb3 ?_
    refine aw_skip ?_
    injection h with h
    subst h
    refine m_norm ?_
    apply w_conv hC []
    ·
     exact co
    ·
     rfl
    ·
     decide
    ·
     rfl
  refine s_reg ?_
  iterate 2 refine v_op hT hC rfl rfl rfl rfl trivial ?_
  refine Vc.nil ?_
  refine aw_ret ?_
  injection h with h
  subst h
  exact ends (Weak.refl _) rfl trivial
def impl_PacketOk_res (r : Bool) : AV := .sv (.bool r)
def impl_PacketOk_obs (r : Bool) : Objs := []
theorem impl_PacketOk_ac {p0 : Packet} {r : Bool} (h : impl_PacketOk p0 = some r) : AC Tryz.prog 24 [.agg [.sv (.int .i64 p0.Seq), .sv (.bool p0.First), .sv (.bool p0.Last), .sv (.str p0.Bytes)]] [] (impl_PacketOk_res r) (impl_PacketOk_obs r) := by
 refine ac_of_body hT Tryz.func24 rfl fun C hC => ?_
 unfold impl_PacketOk at h
 refine s_reg ?_
 iterate 2 refine v_op hT hC rfl rfl rfl rfl trivial ?_
 refine Vc.nil ?_
 refine live [1, 2] [16] (s' := [_, _]) (o' := [_]) rfl rfl ?_
 obtain ⟨v1, h1, h⟩ := bnd_some h
 refine aw_to ([(2, .sv (.bool v1)), (1, .any)], [(16, none)]) ?_ ?_
 ·
  have h := h1
  refine aw_region ?_
  iterate 2 refine v_op hT hC rfl rfl rfl rfl trivial ?_
  obtain ⟨q2, hq, h⟩ := bnd_some h
  refine v_call hC [] rfl rfl rfl rfl Tryz.call28 (impl_isNumber_ac hq) rfl (by decide) trivial rfl (.inl rfl) rfl ?_
  refine v_op hT hC rfl rfl rfl rfl trivial ?_
  rcases sel_some h with ⟨hb1, h⟩ | ⟨hb1, h⟩
  ·
   iterate 3 refine v_on hT hC rfl rfl rfl rfl hb1 rfl rfl rfl trivial ?_
   obtain ⟨q3, hq, h⟩ := bnd_some h
   refine v_call_on hC [] rfl rfl rfl rfl hb1 rfl rfl rfl Tryz.call26 (impl_within_ac hq) rfl (by decide) trivial rfl (.inl rfl) rfl ?_
   refine v_pick hC rfl rfl rfl (b := true) hb1 rfl rfl rfl trivial ?_
   refine v_op hT hC rfl rfl rfl rfl trivial ?_
   refine Vc.nil ?_
   injection h with h
   subst h
   refine m_norm ?_
   apply w_conv hC []
   ·
    exact co
   ·
    rfl
   ·
    decide
   ·
    rfl
  ·
   refine v_off hC rfl rfl rfl rfl hb1 rfl rfl ?_
   refine v_off hC rfl rfl rfl rfl hb1 rfl rfl ?_
   refine v_off hC rfl rfl rfl rfl hb1 rfl rfl ?_
   refine v_off hC rfl rfl rfl rfl hb1 rfl rfl ?_
   refine v_pick hC rfl rfl rfl (b := false) hb1 rfl rfl rfl trivial ?_
   refine v_op hT hC rfl rfl rfl rfl trivial ?_
   refine Vc.nil ?_
   injection h with h
   subst h
   refine m_norm ?_
   apply w_conv hC []
   ·
    exact co
   ·
    rfl
   ·
    decide
   ·
    rfl
 refine aw_ret ?_
 injection h with h
 subst h
 exact ends (Weak.refl _) rfl trivial
def impl_SeqPlus_res (r : Int) : AV := .sv (.int .i64 r)
def impl_SeqPlus_obs (r : Int) : Objs := []
theorem impl_SeqPlus_ac {p0 : Int} {p1 : Int} {r : Int} (h : impl_SeqPlus p0 p1 = some r) : AC Tryz.prog 12 [.sv (.int .i64 p0), .sv (.int .i64 p1)] [] (impl_SeqPlus_res r) (impl_SeqPlus_obs r) := by
 refine ac_of_body hT Tryz.func12 rfl fun C hC => ?_
 unfold impl_SeqPlus at h
 refine s_reg ?_
 refine v_op hT hC rfl rfl rfl rfl trivial ?_
 refine Vc.nil ?_
 refine s_in ?_
 refine live [0, 1] [] (s' := [_, _]) (o' := []) rfl rfl ?_
 obtain ⟨v1, h1, h⟩ := bnd_some h
 refine aw_to ([(12, .sv (.bool v1))], []) ?_ ?_
 ·
  have h := h1
  refine aw_region ?_
  refine v_op hT hC rfl rfl rfl rfl trivial ?_
  obtain ⟨q2, hq, h⟩ := bnd_some h
  refine v_call hC [] rfl rfl rfl rfl Tryz.call28 (impl_isNumber_ac hq) rfl (by decide) trivial rfl (.inl rfl) rfl ?_
  iterate 2 refine v_op hT hC rfl rfl rfl rfl trivial ?_
  rcases sel_some h with ⟨hb1, h⟩ | ⟨hb1, h⟩
  ·
   refine v_on hT hC rfl rfl rfl rfl (congrArg Bool.not hb1) rfl rfl rfl trivial ?_
   obtain ⟨q3, hq, h⟩ := bnd_some h
   refine v_call_on hC [] rfl rfl rfl rfl (congrArg Bool.not hb1) rfl rfl rfl Tryz.call28 (impl_isNumber_ac hq) rfl (by decide) trivial rfl (.inl rfl) rfl ?_
   refine v_on hT hC rfl rfl rfl rfl (congrArg Bool.not hb1) rfl rfl rfl trivial ?_
   refine v_pick hC rfl rfl rfl (b := false) (congrArg Bool.not hb1) rfl rfl rfl trivial ?_
   refine Vc.nil ?_
   injection h with h
   subst h
   refine m_norm ?_
   apply w_conv hC []
   ·
    exact co
   ·
    rfl
   ·
    decide
   ·
    rfl
  ·
   refine v_off hC rfl rfl rfl rfl (congrArg Bool.not hb1) rfl rfl ?_
   refine v_off hC rfl rfl rfl rfl (congrArg Bool.not hb1) rfl rfl ?_
   refine v_off hC rfl rfl rfl rfl (congrArg Bool.not hb1) rfl rfl ?_
   refine v_pick hC rfl rfl rfl (b := true) (congrArg Bool.not hb1) rfl rfl rfl trivial ?_
   refine Vc.nil ?_
   injection h with h
   subst h
   refine m_norm ?_
   apply w_conv hC []
   ·
    exact co
   ·
    rfl
   ·
    decide
   ·
    rfl
 rcases sel_some h with ⟨hb2, h⟩ | ⟨hb2, h⟩
 ·
  refine s_true rfl hb2 ?_
  refine s_reg ?_
  refine v_op hT hC rfl rfl rfl rfl trivial ?_
  refine Vc.nil ?_
  refine aw_ret ?_
  refine t_ret ?_
  injection h with h
  subst h
  exact ends (Weak.refl _) rfl trivial
 ·
  refine s_false rfl hb2 ?_
  refine aw_skip ?_
  refine t_norm ?_
  refine s_reg ?_
  iterate 3 refine v_op hT hC rfl rfl rfl rfl trivial ?_
  obtain ⟨hq, h⟩ := req_some h
  refine v_op hT hC rfl rfl rfl rfl hq ?_
  refine v_op hT hC rfl rfl rfl rfl trivial ?_
  refine Vc.nil ?_
  refine aw_ret ?_
  injection h with h
  subst h
  exact ends (Weak.refl _) rfl trivial
def laws_samePackets_res (r : Bool) : AV := .sv (.bool r)
def laws_samePackets_obs (r : Bool) : Objs := []
theorem laws_samePackets_ac {p0 : (List Packet)} {p1 : (List Packet)} {r : Bool} (h : laws_samePackets p0 p1 = some r) : AC Tryz.prog 11 [.sv (cPacket.sv p0), .sv (cPacket.sv p1)] [] (laws_samePackets_res r) (laws_samePackets_obs r) := by
 refine ac_of_body hT Tryz.func11 rfl fun C hC => ?_
 unfold laws_samePackets at h
 refine s_reg ?_
 refine v_op hT hC rfl rfl rfl rfl trivial ?_
 refine Vc.nil ?_
 refine s_in ?_
 refine s_reg ?_
 iterate 5 refine v_op hT hC rfl rfl rfl rfl trivial ?_
 refine Vc.nil ?_
 rcases sel_some h with ⟨hb1, h⟩ | ⟨hb1, h⟩
 ·
  refine s_true rfl hb1 ?_
  refine s_reg ?_
  refine v_op hT hC rfl rfl rfl rfl trivial ?_
  refine Vc.nil ?_
  refine aw_ret ?_
  refine t_ret ?_
  injection h with h
  subst h
  exact ends (Weak.refl _) rfl trivial
 ·
  refine s_false rfl hb1 ?_
  refine aw_skip ?_
  refine t_norm ?_
  refine s_in ?_
  refine s_reg ?_
  refine v_op hT hC rfl rfl rfl rfl trivial ?_
  refine Vc.nil ?_
  refine live [0, 1, 5] [] (s' := [_, _, _]) (o' := []) rfl rfl ?_
  obtain ⟨o5, hl, h⟩ := bnd_some h
  refine s_loopR (fun v2 => ([(5, .sv (.int .i64 v2))], [])) (fun v4 => ([(0, .any), (1, .any), (5, .any)], [])) (fun r => EndsA C T Tryz.f11.results.toList (laws_samePackets_res r) (laws_samePackets_obs r)) hl ?_ ?_ ?_ ?_
  ·
   apply w_conv hC []
   ·
    exact co
   ·
    rfl
   ·
    decide
   ·
    rfl
  ·
   intro v2 s hs
   have h := hs
   unfold laws_samePackets_l2 at h
   refine s_in ?_
   refine s_reg ?_
   iterate 4 refine v_op hT hC rfl rfl rfl rfl trivial ?_
   refine Vc.nil ?_
   rcases sel_some h with ⟨hb6, h⟩ | ⟨hb6, h⟩
   ·
    refine s_true rfl hb6 ?_
    refine aw_skip ?_
    refine t_norm ?_
    refine s_in ?_
    refine s_block ?_
    refine s_draw hm ?_
    iterate 2 refine v_op hT hC rfl rfl rfl rfl trivial ?_
    obtain ⟨hq, h⟩ := req_some h
    refine v_op hT hC rfl rfl rfl rfl hq ?_
    iterate 3 refine v_op hT hC rfl rfl rfl rfl trivial ?_
    obtain ⟨hq, h⟩ := req_some h
    refine v_op hT hC rfl rfl rfl rfl hq ?_
    refine v_op hT hC rfl rfl rfl rfl trivial ?_
    refine v_eq hC rfl rfl rfl rfl eq_t33 rfl rfl ?_
    refine Vc.nil ⟨by kernel_rfl, ?_⟩
    rcases sel_some h with ⟨hb7, h⟩ | ⟨hb7, h⟩
    ·
     refine s_true rfl hb7 ?_
     refine s_reg ?_
     refine v_op hT hC rfl rfl rfl rfl trivial ?_
     refine Vc.nil ?_
     refine aw_ret ?_
     refine b_ret ?_
     refine t_ret ?_
     injection h with h
     subst h
     refine r_ret ?_
     refine o_ret ?_
     exact ends (Weak.refl _) rfl trivial
    ·
     refine s_false rfl hb7 ?_
     refine aw_skip ?_
     refine b_norm ?_
     refine t_norm ?_
     refine aw_region ?_
     iterate 3 refine v_op hT hC rfl rfl rfl rfl trivial ?_
     refine Vc.nil ?_
     injection h with h
     subst h
     refine r_go ?_
     apply w_conv hC []
     ·
      exact co
     ·
      rfl
     ·
      decide
     ·
      rfl
   ·
    refine s_false rfl hb6 ?_
    refine aw_exit ?_
    refine t_exit ?_
    injection h with h
    subst h
    refine r_exit ?_
    refine o_both ?_
    apply w_conv hC []
    ·
     exact co
    ·
     rfl
    ·
     decide
    ·
     rfl
  ·
   intro v4 e
   subst e
   refine t_norm ?_
   refine s_reg ?_
   refine v_op hT hC rfl rfl rfl rfl trivial ?_
   refine Vc.nil ?_
   refine aw_ret ?_
   injection h with h
   subst h
   exact ends (Weak.refl _) rfl trivial
  ·
   intro r' σ' e hE
   subst e
   injection h with h
   subst h
   refine t_ret ?_
   exact hE
def impl_places_res (r : (List Int)) : AV := .own 16
def impl_places_obs (r : (List Int)) : Objs := [(16, .ints .i64 r)]
theorem impl_places_ac {p0 : ByteArray} {r : (List Int)} (h : impl_places p0 = some r) : AC Tryz.prog 37 [.sv (.str p0)] [] (impl_places_res r) (impl_places_obs r) := by
 refine ac_of_body hT Tryz.func37 rfl fun C hC => ?_
 unfold impl_places at h
 refine s_reg ?_
 refine v_op hT hC rfl rfl rfl rfl trivial ?_
 refine Vc.nil ?_
 refine s_reg ?_
 iterate 2 refine v_op hT hC rfl rfl rfl rfl trivial ?_
 refine Vc.nil ?_
 refine s_in ?_
 refine s_reg ?_
 refine v_op hT hC rfl rfl rfl rfl trivial ?_
 refine Vc.nil ?_
 refine live [0, 3, 4] [80] (s' := [_, _, _]) (o' := [_]) rfl rfl ?_
 obtain ⟨v6, hl, h⟩ := bnd_some h
 refine s_loop (fun v3 => ([(4, .sv (.int .i64 v3.1))], [(80, some (.ints .i64 v3.2))])) (fun v6 => ([(0, .any), (4, .any)], [(80, some (.ints .i64 v6))])) hl ?_ ?_ ?_
 ·
  try dsimp only
  apply w_conv hC []
  ·
   exact co
  ·
   rfl
  ·
   decide
  ·
   rfl
 ·
  intro v3 s hs
  have h := hs
  unfold impl_places_l2 at h
  refine s_in ?_
  refine s_reg ?_
  iterate 5 refine v_op hT hC rfl rfl rfl rfl trivial ?_
  refine Vc.nil ?_
  rcases sel_some h with ⟨hb5, h⟩ | ⟨hb5, h⟩
  ·
   refine s_true rfl hb5 ?_
   refine aw_skip ?_
   refine t_norm ?_
   refine live [0, 3, 4] [80] (s' := [_, _, _]) (o' := [_]) rfl rfl ?_
   obtain ⟨v7, h1, h⟩ := bnd_some h
   refine aw_to ([], [(80, some (.ints .i64 v7))]) ?_ ?_
   ·
    have h := h1
    refine s_block ?_
    refine s_reg ?_
    iterate 4 refine v_op hT hC rfl rfl rfl rfl trivial ?_
    obtain ⟨hq, h⟩ := req_some h
    refine v_op hT hC rfl rfl rfl rfl hq ?_
    refine v_op hT hC rfl rfl rfl rfl trivial ?_
    refine Vc.nil ?_
    rcases sel_some h with ⟨hb6, h⟩ | ⟨hb6, h⟩
    ·
     refine s_true rfl hb6 ?_
     refine aw_region ?_
     iterate 3 refine v_op hT hC rfl rfl rfl rfl trivial ?_
     obtain ⟨hq, h⟩ := req_some h
     refine v_op hT hC rfl rfl rfl rfl ⟨trivial, hq⟩ ?_
     refine v_op hT hC rfl rfl rfl rfl trivial ?_
     refine Vc.nil ?_
     refine b_norm ?_
     injection h with h
     subst h
     refine m_norm ?_
     apply w_conv hC [(80, 352)]
     ·
      exact co
     ·
      rfl
     ·
      decide
     ·
      rfl
    ·
     refine s_false rfl hb6 ?_
     refine aw_skip ?_
     refine b_norm ?_
     injection h with h
     subst h
     refine m_norm ?_
     apply w_conv hC []
     ·
      exact co
     ·
      rfl
     ·
      decide
     ·
      rfl
   refine aw_region ?_
   iterate 3 refine v_op hT hC rfl rfl rfl rfl trivial ?_
   refine Vc.nil ?_
   injection h with h
   subst h
   refine r_go ?_
   try dsimp only
   apply w_conv hC []
   ·
    exact co
   ·
    rfl
   ·
    decide
   ·
    rfl
  ·
   refine s_false rfl hb5 ?_
   refine aw_exit ?_
   refine t_exit ?_
   injection h with h
   subst h
   refine r_exit ?_
   refine o_out ?_
   apply w_conv hC []
   ·
    exact co
   ·
    rfl
   ·
    decide
   ·
    rfl
 refine t_norm ?_
 refine s_reg ?_
 iterate 2 refine v_op hT hC rfl rfl rfl rfl trivial ?_
 refine Vc.nil ?_
 refine aw_ret ?_
 injection h with h
 subst h
 refine ends (τ := ⟨[(2, .own 16)], [(16, some (.ints .i64 v6))]⟩) ?_ rfl ⟨rfl, trivial⟩
 apply w_conv hC [(16, 80)]
 ·
  exact co
 ·
  rfl
 ·
  decide
 ·
  rfl
def impl_Escaped_res (r : (ByteArray × Bool)) : AV := .tup [.sv (.str r.1), .sv (.bool r.2)]
def impl_Escaped_obs (r : (ByteArray × Bool)) : Objs := []
theorem impl_Escaped_ac {p0 : ByteArray} {r : (ByteArray × Bool)} (h : impl_Escaped p0 = some r) : AC Tryz.prog 39 [.sv (.str p0)] [] (impl_Escaped_res r) (impl_Escaped_obs r) := by
 refine ac_of_body hT Tryz.func39 rfl fun C hC => ?_
 unfold impl_Escaped at h
 refine s_reg ?_
 iterate 2 refine v_op hT hC rfl rfl rfl rfl trivial ?_
 refine Vc.nil ?_
 refine s_in ?_
 refine live [0] [] (s' := [_]) (o' := []) rfl rfl ?_
 obtain ⟨v1, h1, h⟩ := bnd_some h
 refine aw_to ([(21, .sv (.bool v1))], []) ?_ ?_
 ·
  have h := h1
  refine aw_region ?_
  iterate 3 refine v_op hT hC rfl rfl rfl rfl trivial ?_
  rcases sel_some h with ⟨hb1, h⟩ | ⟨hb1, h⟩
  ·
   refine v_off hC rfl rfl rfl rfl hb1 rfl rfl ?_
   refine v_off hC rfl rfl rfl rfl hb1 rfl rfl ?_
   refine v_off hC rfl rfl rfl rfl hb1 rfl rfl ?_
   refine v_pick hC rfl rfl rfl (b := true) hb1 rfl rfl rfl trivial ?_
   refine v_op hT hC rfl rfl rfl rfl trivial ?_
   refine v_off hC rfl rfl rfl rfl rfl rfl rfl ?_
   refine v_off hC rfl rfl rfl rfl rfl rfl rfl ?_
   refine v_off hC rfl rfl rfl rfl rfl rfl rfl ?_
   refine v_off hC rfl rfl rfl rfl rfl rfl rfl ?_
   refine v_off hC rfl rfl rfl rfl rfl rfl rfl ?_
   refine v_off hC rfl rfl rfl rfl rfl rfl rfl ?_
   refine v_op hT hC rfl rfl rfl rfl trivial ?_
   refine Vc.nil ?_
   injection h with h
   subst h
   refine m_norm ?_
   apply w_conv hC []
   ·
    exact co
   ·
    rfl
   ·
    decide
   ·
    rfl
  ·
   iterate 3 refine v_on hT hC rfl rfl rfl rfl hb1 rfl rfl rfl trivial ?_
   refine v_pick hC rfl rfl rfl (b := false) hb1 rfl rfl rfl trivial ?_
   refine v_op hT hC rfl rfl rfl rfl trivial ?_
   rcases sel_some h with ⟨hb2, h⟩ | ⟨hb2, h⟩
   ·
    refine v_off hC rfl rfl rfl rfl hb2 rfl rfl ?_
    refine v_off hC rfl rfl rfl rfl hb2 rfl rfl ?_
    refine v_off hC rfl rfl rfl rfl hb2 rfl rfl ?_
    refine v_off hC rfl rfl rfl rfl hb2 rfl rfl ?_
    refine v_off hC rfl rfl rfl rfl hb2 rfl rfl ?_
    refine v_off hC rfl rfl rfl rfl hb2 rfl rfl ?_
    refine v_pick hC rfl rfl rfl (b := true) hb2 rfl rfl rfl trivial ?_
    refine Vc.nil ?_
    injection h with h
    subst h
    refine m_norm ?_
    apply w_conv hC []
    ·
     exact co
    ·
     rfl
    ·
     decide
    ·
     rfl
   ·
    iterate 4 refine v_on hT hC rfl rfl rfl rfl hb2 rfl rfl rfl trivial ?_
    obtain ⟨hq, h⟩ := req_some h
    refine v_on hT hC rfl rfl rfl rfl hb2 rfl rfl rfl hq ?_
    refine v_on hT hC rfl rfl rfl rfl hb2 rfl rfl rfl trivial ?_
    refine v_pick hC rfl rfl rfl (b := false) hb2 rfl rfl rfl trivial ?_
    refine Vc.nil ?_
    injection h with h
    subst h
    refine m_norm ?_
    apply w_conv hC []
    ·
     exact co
    ·
     rfl
    ·
     decide
    ·
     rfl
 rcases sel_some h with ⟨hb3, h⟩ | ⟨hb3, h⟩
 ·
  refine s_true rfl hb3 ?_
  refine s_reg ?_
  iterate 2 refine v_op hT hC rfl rfl rfl rfl trivial ?_
  refine Vc.nil ?_
  refine aw_ret ?_
  refine t_ret ?_
  injection h with h
  subst h
  exact ends (Weak.refl _) rfl trivial
 ·
  refine s_false rfl hb3 ?_
  refine aw_skip ?_
  refine t_norm ?_
  refine s_reg ?_
  iterate 4 refine v_op hT hC rfl rfl rfl rfl trivial ?_
  obtain ⟨hq, h⟩ := req_some h
  refine v_op hT hC rfl rfl rfl rfl hq ?_
  refine v_op hT hC rfl rfl rfl rfl trivial ?_
  obtain ⟨hq, h⟩ := req_some h
  refine v_op hT hC rfl rfl rfl rfl ⟨hq.1, hq.2.1, hq.2.2, by decide⟩ ?_
  refine v_op hT hC rfl rfl rfl rfl trivial ?_
  refine Vc.nil ?_
  refine s_reg ?_
  refine v_op hT hC rfl rfl rfl rfl trivial ?_
  refine Vc.nil ?_
  refine s_in ?_
  refine s_reg ?_
  refine v_op hT hC rfl rfl rfl rfl trivial ?_
  refine Vc.nil ?_
  refine live [0, 4, 5, 6] [448] (s' := [_, _, _, _]) (o' := [_]) rfl rfl ?_
  obtain ⟨v11, hl, h⟩ := bnd_some h
  refine s_loop (fun v6 => ([(5, .sv (.int .i64 v6.1)), (6, .sv (.int .i64 v6.2.1))], [(448, some (.ints .u8 v6.2.2))])) (fun v11 => ([(0, .any), (5, .any), (6, .any)], [(448, some (.ints .u8 v11))])) hl ?_ ?_ ?_
  ·
   try dsimp only
   apply w_conv hC []
   ·
    exact co
   ·
    rfl
   ·
    decide
   ·
    rfl
  ·
   intro v6 s hs
   have h := hs
   unfold impl_Escaped_l2 at h
   refine s_in ?_
   refine s_reg ?_
   iterate 4 refine v_op hT hC rfl rfl rfl rfl trivial ?_
   refine Vc.nil ?_
   rcases sel_some h with ⟨hb12, h⟩ | ⟨hb12, h⟩
   ·
    refine s_true rfl hb12 ?_
    refine aw_skip ?_
    refine t_norm ?_
    refine live [0, 4, 5, 6] [448] (s' := [_, _, _, _]) (o' := [_]) rfl rfl ?_
    obtain ⟨v12, h1, h⟩ := bnd_some h
    refine aw_to ([(4, .own 982), (5, .sv (.int .i64 v12.1))], [(982, some (.ints .u8 v12.2)), (448, none)]) ?_ ?_
    ·
     have h := h1
     refine s_block ?_
     refine live [0, 4, 5, 6] [448] (s' := [_, _, _, _]) (o' := [_]) rfl rfl ?_
     obtain ⟨v13, h1, h⟩ := bnd_some h
     refine aw_to ([(5, .sv (.int .i64 v13.1))], [(448, some (.ints .u8 v13.2))]) ?_ ?_
     ·
      have h := h1
      refine live [0, 4, 5, 6] [448] (s' := [_, _, _, _]) (o' := [_]) rfl rfl ?_
      obtain ⟨v14, h1, h⟩ := bnd_some h
      refine aw_to ([(42, .sv (.bool v14))], []) ?_ ?_
      ·
       have h := h1
       refine aw_region ?_
       iterate 2 refine v_op hT hC rfl rfl rfl rfl trivial ?_
       obtain ⟨hq, h⟩ := req_some h
       refine v_op hT hC rfl rfl rfl rfl hq ?_
       iterate 2 refine v_op hT hC rfl rfl rfl rfl trivial ?_
       rcases sel_some h with ⟨hb13, h⟩ | ⟨hb13, h⟩
       ·
        iterate 2 refine v_on hT hC rfl rfl rfl rfl hb13 rfl rfl rfl trivial ?_
        refine v_pick hC rfl rfl rfl (b := true) hb13 rfl rfl rfl trivial ?_
        refine Vc.nil ?_
        injection h with h
        subst h
        refine m_norm ?_
        apply w_conv hC []
        ·
         exact co
        ·
         rfl
        ·
         decide
        ·
         rfl
       ·
        refine v_off hC rfl rfl rfl rfl hb13 rfl rfl ?_
        refine v_off hC rfl rfl rfl rfl hb13 rfl rfl ?_
        refine v_pick hC rfl rfl rfl (b := false) hb13 rfl rfl rfl trivial ?_
        refine Vc.nil ?_
        injection h with h
        subst h
        refine m_norm ?_
        apply w_conv hC []
        ·
         exact co
        ·
         rfl
        ·
         decide
        ·
         rfl
      rcases sel_some h with ⟨hb14, h⟩ | ⟨hb14, h⟩
      ·
       refine s_true rfl hb14 ?_
       refine s_reg ?_
       iterate 2 refine v_op hT hC rfl rfl rfl rfl trivial ?_
       obtain ⟨hq, h⟩ := req_some h
       refine v_op hT hC rfl rfl rfl rfl ⟨trivial, hq⟩ ?_
       refine v_op hT hC rfl rfl rfl rfl trivial ?_
       refine Vc.nil ?_
       refine aw_region ?_
       refine v_op hT hC rfl rfl rfl rfl trivial ?_
       refine Vc.nil ?_
       injection h with h
       subst h
       refine m_norm ?_
       try dsimp only
       apply w_conv hC [(448, 720)]
       ·
        exact co
       ·
        rfl
       ·
        decide
       ·
        rfl
      ·
       refine s_false rfl hb14 ?_
       refine aw_skip ?_
       injection h with h
       subst h
       refine m_norm ?_
       try dsimp only
       apply w_conv hC []
       ·
        exact co
       ·
        rfl
       ·
        decide
       ·
        rfl
     refine s_reg ?_
     iterate 3 refine v_op hT hC rfl rfl rfl rfl trivial ?_
     obtain ⟨hq, h⟩ := req_some h
     refine v_op hT hC rfl rfl rfl rfl hq ?_
     refine v_op hT hC rfl rfl rfl rfl trivial ?_
     obtain ⟨hq, h⟩ := req_some h
     refine v_op hT hC rfl rfl rfl rfl ⟨trivial, hq⟩ ?_
     refine v_op hT hC rfl rfl rfl rfl trivial ?_
     refine Vc.nil ?_
     refine s_reg ?_
     iterate 2 refine v_op hT hC rfl rfl rfl rfl trivial ?_
     obtain ⟨hq, h⟩ := req_some h
     refine v_op hT hC rfl rfl rfl rfl hq ?_
     refine v_op hT hC rfl rfl rfl rfl trivial ?_
     refine Vc.nil ?_
     rcases sel_some h with ⟨hb15, h⟩ | ⟨hb15, h⟩
     ·
      refine s_true rfl hb15 ?_
      refine aw_region ?_
      iterate 3 refine v_op hT hC rfl rfl rfl rfl trivial ?_
      refine Vc.nil ?_
      refine b_norm ?_
      injection h with h
      subst h
      refine m_norm ?_
      try dsimp only
      apply w_conv hC [(982, 816)]
      ·
       exact co
      ·
       rfl
      ·
       decide
      ·
       rfl
     ·
      refine s_false rfl hb15 ?_
      refine aw_region ?_
      refine v_op hT hC rfl rfl rfl rfl trivial ?_
      refine Vc.nil ?_
      refine b_norm ?_
      injection h with h
      subst h
      refine m_norm ?_
      try dsimp only
      apply w_conv hC [(982, 816)]
      ·
       exact co
      ·
       rfl
      ·
       decide
      ·
       rfl
    refine aw_region ?_
    iterate 3 refine v_op hT hC rfl rfl rfl rfl trivial ?_
    refine Vc.nil ?_
    injection h with h
    subst h
    refine r_go ?_
    try dsimp only
    apply w_conv hC [(448, 982)]
    ·
     exact co
    ·
     rfl
    ·
     decide
    ·
     rfl
   ·
    refine s_false rfl hb12 ?_
    refine aw_exit ?_
    refine t_exit ?_
    injection h with h
    subst h
    refine r_exit ?_
    refine o_out ?_
    apply w_conv hC []
    ·
     exact co
    ·
     rfl
    ·
     decide
    ·
     rfl
  refine t_norm ?_
  refine s_reg ?_
  iterate 4 refine v_op hT hC rfl rfl rfl rfl trivial ?_
  refine Vc.nil ?_
  refine aw_ret ?_
  injection h with h
  subst h
  exact ends (Weak.refl _) rfl trivial
def impl_Unescaped_res (r : (ByteArray × Bool)) : AV := .tup [.sv (.str r.1), .sv (.bool r.2)]
def impl_Unescaped_obs (r : (ByteArray × Bool)) : Objs := []
theorem impl_Unescaped_ac {p0 : ByteArray} {r : (ByteArray × Bool)} (h : impl_Unescaped p0 = some r) : AC Tryz.prog 38 [.sv (.str p0)] [] (impl_Unescaped_res r) (impl_Unescaped_obs r) := by
 refine ac_of_body hT Tryz.func38 rfl fun C hC => ?_
 unfold impl_Unescaped at h
 refine s_reg ?_
 iterate 2 refine v_op hT hC rfl rfl rfl rfl trivial ?_
 refine Vc.nil ?_
 refine s_reg ?_
 iterate 2 refine v_op hT hC rfl rfl rfl rfl trivial ?_
 obtain ⟨hq, h⟩ := req_some h
 refine v_op hT hC rfl rfl rfl rfl ⟨hq.1, hq.2.1, hq.2.2, by decide⟩ ?_
 refine v_op hT hC rfl rfl rfl rfl trivial ?_
 refine Vc.nil ?_
 refine s_reg ?_
 refine v_op hT hC rfl rfl rfl rfl trivial ?_
 refine Vc.nil ?_
 refine s_in ?_
 refine s_reg ?_
 refine v_op hT hC rfl rfl rfl rfl trivial ?_
 refine Vc.nil ?_
 refine live [0, 4, 5, 6] [176] (s' := [_, _, _, _]) (o' := [_]) rfl rfl ?_
 obtain ⟨v10, hl, h⟩ := bnd_some h
 refine s_loop (fun v5 => ([(5, .sv (.int .i64 v5.1)), (6, .sv (.int .i64 v5.2.1))], [(176, some (.ints .u8 v5.2.2))])) (fun v10 => ([(5, .any), (6, .any)], [(176, some (.ints .u8 v10))])) hl ?_ ?_ ?_
 ·
  try dsimp only
  apply w_conv hC []
  ·
   exact co
  ·
   rfl
  ·
   decide
  ·
   rfl
 ·
  intro v5 s hs
  have h := hs
  unfold impl_Unescaped_l2 at h
  refine s_in ?_
  refine s_reg ?_
  iterate 4 refine v_op hT hC rfl rfl rfl rfl trivial ?_
  refine Vc.nil ?_
  rcases sel_some h with ⟨hb9, h⟩ | ⟨hb9, h⟩
  ·
   refine s_true rfl hb9 ?_
   refine aw_skip ?_
   refine t_norm ?_
   refine live [0, 4, 5, 6] [176] (s' := [_, _, _, _]) (o' := [_]) rfl rfl ?_
   obtain ⟨v11, h1, h⟩ := bnd_some h
   refine aw_to ([(5, .sv (.int .i64 v11.1))], [(176, some (.ints .u8 v11.2))]) ?_ ?_
   ·
    have h := h1
    refine s_block ?_
    refine live [0, 4, 5, 6] [176] (s' := [_, _, _, _]) (o' := [_]) rfl rfl ?_
    refine aw_joinH h (fun (v12 : Int) => ([(5, .sv (.int .i64 v12))], [])) (fun v12 h => ?_) (fun h => ?_)
    ·
     refine aw_region ?_
     iterate 3 refine v_op hT hC rfl rfl rfl rfl trivial ?_
     obtain ⟨hq, h⟩ := req_some h
     refine v_op hT hC rfl rfl rfl rfl hq ?_
     refine v_op hT hC rfl rfl rfl rfl trivial ?_
     obtain ⟨hq, h⟩ := req_some h
     refine v_op hT hC rfl rfl rfl rfl ⟨trivial, hq⟩ ?_
     refine v_op hT hC rfl rfl rfl rfl trivial ?_
     refine Vc.nil ?_
     refine b_norm ?_
     injection h with h
     subst h
     refine m_norm ?_
     try dsimp only
     apply w_conv hC [(176, 624)]
     ·
      exact co
     ·
      rfl
     ·
      decide
     ·
      rfl
    refine s_block ?_
    refine live [0, 4, 5, 6] [176] (s' := [_, _, _, _]) (o' := [_]) rfl rfl ?_
    obtain ⟨v13, h1, h⟩ := bnd_some h
    refine aw_to ([(18, .sv (.bool v13))], []) ?_ ?_
    ·
     have h := h1
     refine aw_region ?_
     iterate 3 refine v_op hT hC rfl rfl rfl rfl trivial ?_
     rcases sel_some h with ⟨hb10, h⟩ | ⟨hb10, h⟩
     ·
      iterate 2 refine v_on hT hC rfl rfl rfl rfl hb10 rfl rfl rfl trivial ?_
      obtain ⟨hq, h⟩ := req_some h
      refine v_on hT hC rfl rfl rfl rfl hb10 rfl rfl rfl hq ?_
      refine v_on hT hC rfl rfl rfl rfl hb10 rfl rfl rfl trivial ?_
      refine v_pick hC rfl rfl rfl (b := true) hb10 rfl rfl rfl trivial ?_
      refine v_op hT hC rfl rfl rfl rfl trivial ?_
      refine Vc.nil ?_
      injection h with h
      subst h
      refine m_norm ?_
      apply w_conv hC []
      ·
       exact co
      ·
       rfl
      ·
       decide
      ·
       rfl
     ·
      refine v_off hC rfl rfl rfl rfl hb10 rfl rfl ?_
      refine v_off hC rfl rfl rfl rfl hb10 rfl rfl ?_
      refine v_off hC rfl rfl rfl rfl hb10 rfl rfl ?_
      refine v_off hC rfl rfl rfl rfl hb10 rfl rfl ?_
      refine v_pick hC rfl rfl rfl (b := false) hb10 rfl rfl rfl trivial ?_
      refine v_op hT hC rfl rfl rfl rfl trivial ?_
      refine Vc.nil ?_
      injection h with h
      subst h
      refine m_norm ?_
      apply w_conv hC []
      ·
       exact co
      ·
       rfl
      ·
       decide
      ·
       rfl
    rcases sel_some h with ⟨hb11, h⟩ | ⟨hb11, h⟩
    ·
     refine s_true rfl hb11 ?_
     refine s_reg ?_
     refine v_op hT hC rfl rfl rfl rfl trivial ?_
     refine Vc.nil ?_
     refine aw_exit ?_
     refine b_other rfl ?_
     refine j_exit ?_
     refine b_exit ?_
     injection h with h
     subst h
     refine m_norm ?_
     try dsimp only
     apply w_conv hC []
     ·
      exact co
     ·
      rfl
     ·
      decide
     ·
      rfl
    ·
     refine s_false rfl hb11 ?_
     refine s_reg ?_
     iterate 2 refine v_op hT hC rfl rfl rfl rfl trivial ?_
     obtain ⟨hq, h⟩ := req_some h
     refine v_op hT hC rfl rfl rfl rfl hq ?_
     iterate 2 refine v_op hT hC rfl rfl rfl rfl trivial ?_
     refine Vc.nil ?_
     rcases sel_some h with ⟨hb12, h⟩ | ⟨hb12, h⟩
     ·
      refine s_true rfl hb12 ?_
      refine aw_region ?_
      iterate 3 refine v_op hT hC rfl rfl rfl rfl trivial ?_
      refine Vc.nil ?_
      refine b_norm ?_
      refine j_norm (wrapK .i64 (v5.1 + 1)) h ?_
      apply w_conv hC []
      ·
       exact co
      ·
       rfl
      ·
       decide
      ·
       rfl
     ·
      refine s_false rfl hb12 ?_
      refine aw_region ?_
      refine v_op hT hC rfl rfl rfl rfl trivial ?_
      refine Vc.nil ?_
      refine b_norm ?_
      refine j_norm 0 h ?_
      apply w_conv hC []
      ·
       exact co
      ·
       rfl
      ·
       decide
      ·
       rfl
   refine aw_region ?_
   iterate 3 refine v_op hT hC rfl rfl rfl rfl trivial ?_
   refine Vc.nil ?_
   injection h with h
   subst h
   refine r_go ?_
   try dsimp only
   apply w_conv hC []
   ·
    exact co
   ·
    rfl
   ·
    decide
   ·
    rfl
  ·
   refine s_false rfl hb9 ?_
   refine aw_exit ?_
   refine t_exit ?_
   injection h with h
   subst h
   refine r_exit ?_
   refine o_out ?_
   apply w_conv hC []
   ·
    exact co
   ·
    rfl
   ·
    decide
   ·
    rfl
 refine t_norm ?_
 refine s_in ?_
 refine s_reg ?_
 iterate 2 refine v_op hT hC rfl rfl rfl rfl trivial ?_
 obtain ⟨q15, hq, h⟩ := bnd_some h
 refine v_call hC [] rfl rfl rfl rfl Tryz.call39 (impl_Escaped_ac hq) rfl (by decide) trivial rfl (.inl rfl) rfl ?_
 iterate 5 refine v_op hT hC rfl rfl rfl rfl trivial ?_
 refine Vc.nil ?_
 refine live [0, 4, 7, 8] [176] (s' := [_, _, _, _]) (o' := [_]) rfl rfl ?_
 obtain ⟨v16, h1, h⟩ := bnd_some h
 refine aw_to ([(52, .sv (.bool v16)), (0, .any), (7, .any), (8, .any)], []) ?_ ?_
 ·
  have h := h1
  refine aw_region ?_
  iterate 3 refine v_op hT hC rfl rfl rfl rfl trivial ?_
  rcases sel_some h with ⟨hb13, h⟩ | ⟨hb13, h⟩
  ·
   iterate 3 refine v_on hT hC rfl rfl rfl rfl (congrArg Bool.not hb13) rfl rfl rfl trivial ?_
   refine v_pick hC rfl rfl rfl (b := false) (congrArg Bool.not hb13) rfl rfl rfl trivial ?_
   refine Vc.nil ?_
   injection h with h
   subst h
   refine m_norm ?_
   apply w_conv hC []
   ·
    exact co
   ·
    rfl
   ·
    decide
   ·
    rfl
  ·
   refine v_off hC rfl rfl rfl rfl (congrArg Bool.not hb13) rfl rfl ?_
   refine v_off hC rfl rfl rfl rfl (congrArg Bool.not hb13) rfl rfl ?_
   refine v_off hC rfl rfl rfl rfl (congrArg Bool.not hb13) rfl rfl ?_
   refine v_pick hC rfl rfl rfl (b := true) (congrArg Bool.not hb13) rfl rfl rfl trivial ?_
   refine Vc.nil ?_
   injection h with h
   subst h
   refine m_norm ?_
   apply w_conv hC []
   ·
    exact co
   ·
    rfl
   ·
    decide
   ·
    rfl
 rcases sel_some h with ⟨hb14, h⟩ | ⟨hb14, h⟩
 ·
  refine s_true rfl hb14 ?_
  refine s_reg ?_
  iterate 2 refine v_op hT hC rfl rfl rfl rfl trivial ?_
  refine Vc.nil ?_
  refine aw_ret ?_
  refine t_ret ?_
  injection h with h
  subst h
  exact ends (Weak.refl _) rfl trivial
 ·
  refine s_false rfl hb14 ?_
  refine aw_skip ?_
  refine t_norm ?_
  refine s_reg ?_
  iterate 4 refine v_op hT hC rfl rfl rfl rfl trivial ?_
  refine Vc.nil ?_
  refine aw_ret ?_
  injection h with h
  subst h
  exact ends (Weak.refl _) rfl trivial
def impl_Framed_res (r : (ByteArray × Bool)) : AV := .tup [.sv (.str r.1), .sv (.bool r.2)]
def impl_Framed_obs (r : (ByteArray × Bool)) : Objs := []
theorem impl_Framed_ac {p0 : (List ByteArray)} {r : (ByteArray × Bool)} (h : impl_Framed p0 = some r) : AC Tryz.prog 30 [.sv (cByteArray.sv p0)] [] (impl_Framed_res r) (impl_Framed_obs r) := by
 refine ac_of_body hT Tryz.func30 rfl fun C hC => ?_
 unfold impl_Framed at h
 refine s_reg ?_
 iterate 2 refine v_op hT hC rfl rfl rfl rfl trivial ?_
 refine Vc.nil ?_
 refine s_in ?_
 refine s_reg ?_
 iterate 3 refine v_op hT hC rfl rfl rfl rfl trivial ?_
 refine Vc.nil ?_
 rcases sel_some h with ⟨hb1, h⟩ | ⟨hb1, h⟩
 ·
  refine s_true rfl hb1 ?_
  refine s_reg ?_
  iterate 2 refine v_op hT hC rfl rfl rfl rfl trivial ?_
  refine Vc.nil ?_
  refine aw_ret ?_
  refine t_ret ?_
  injection h with h
  subst h
  exact ends (Weak.refl _) rfl trivial
 ·
  refine s_false rfl hb1 ?_
  refine aw_skip ?_
  refine t_norm ?_
  refine s_reg ?_
  iterate 2 refine v_op hT hC rfl rfl rfl rfl trivial ?_
  refine Vc.nil ?_
  refine s_in ?_
  refine s_reg ?_
  iterate 3 refine v_op hT hC rfl rfl rfl rfl trivial ?_
  refine Vc.nil ?_
  refine live [4, 13, 14, 15] [192] (s' := [_, _, _, _]) (o' := [_]) rfl rfl ?_
  obtain ⟨o11, hl, h⟩ := bnd_some h
  refine s_loopR (fun v4 => ([(15, .sv (.int .i64 v4.1))], [(192, some (.ints .u8 v4.2))])) (fun v8 => ([(13, .any), (14, .any), (15, .any)], [(192, some (.ints .u8 v8))])) (fun r => EndsA C T Tryz.f30.results.toList (impl_Framed_res r) (impl_Framed_obs r)) hl ?_ ?_ ?_ ?_
  ·
   try dsimp only
   apply w_conv hC []
   ·
    exact co
   ·
    rfl
   ·
    decide
   ·
    rfl
  ·
   intro v4 s hs
   have h := hs
   unfold impl_Framed_l2 at h
   refine s_reg ?_
   refine v_op hT hC rfl rfl rfl rfl trivial ?_
   refine Vc.nil ?_
   refine s_in ?_
   rcases sel_some h with ⟨hb8, h⟩ | ⟨hb8, h⟩
   ·
    refine s_true rfl hb8 ?_
    refine aw_skip ?_
    refine t_norm ?_
    refine s_in ?_
    refine s_block ?_
    refine s_reg ?_
    obtain ⟨hq, h⟩ := req_some h
    refine v_op hT hC rfl rfl rfl rfl hq ?_
    iterate 2 refine v_op hT hC rfl rfl rfl rfl trivial ?_
    refine Vc.nil ?_
    refine s_reg ?_
    refine v_op hT hC rfl rfl rfl rfl trivial ?_
    obtain ⟨q9, hq, h⟩ := bnd_some h
    refine v_call hC [] rfl rfl rfl rfl Tryz.call39 (impl_Escaped_ac hq) rfl (by decide) trivial rfl (.inl rfl) rfl ?_
    iterate 5 refine v_op hT hC rfl rfl rfl rfl trivial ?_
    refine Vc.nil ?_
    refine s_in ?_
    refine live [4, 7, 8, 13, 14, 15] [192] (s' := [_, _, _, _, _, _]) (o' := [_]) rfl rfl ?_
    obtain ⟨v10, h1, h⟩ := bnd_some h
    refine aw_to ([(34, .sv (.bool v10)), (8, .any)], []) ?_ ?_
    ·
     have h := h1
     refine aw_region ?_
     iterate 3 refine v_op hT hC rfl rfl rfl rfl trivial ?_
     rcases sel_some h with ⟨hb9, h⟩ | ⟨hb9, h⟩
     ·
      iterate 7 refine v_on hT hC rfl rfl rfl rfl (congrArg Bool.not hb9) rfl rfl rfl trivial ?_
      refine v_pick hC rfl rfl rfl (b := false) (congrArg Bool.not hb9) rfl rfl rfl trivial ?_
      refine Vc.nil ?_
      injection h with h
      subst h
      refine m_norm ?_
      apply w_conv hC []
      ·
       exact co
      ·
       rfl
      ·
       decide
      ·
       rfl
     ·
      refine v_off hC rfl rfl rfl rfl (congrArg Bool.not hb9) rfl rfl ?_
      refine v_off hC rfl rfl rfl rfl (congrArg Bool.not hb9) rfl rfl ?_
      refine v_off hC rfl rfl rfl rfl (congrArg Bool.not hb9) rfl rfl ?_
      refine v_off hC rfl rfl rfl rfl (congrArg Bool.not hb9) rfl rfl ?_
      refine v_off hC rfl rfl rfl rfl (congrArg Bool.not hb9) rfl rfl ?_
      refine v_off hC rfl rfl rfl rfl (congrArg Bool.not hb9) rfl rfl ?_
      refine v_off hC rfl rfl rfl rfl (congrArg Bool.not hb9) rfl rfl ?_
      refine v_pick hC rfl rfl rfl (b := true) (congrArg Bool.not hb9) rfl rfl rfl trivial ?_
      refine Vc.nil ?_
      injection h with h
      subst h
      refine m_norm ?_
      apply w_conv hC []
      ·
       exact co
      ·
       rfl
      ·
       decide
      ·
       rfl
    rcases sel_some h with ⟨hb10, h⟩ | ⟨hb10, h⟩
    ·
     refine s_true rfl hb10 ?_
     refine s_reg ?_
     iterate 2 refine v_op hT hC rfl rfl rfl rfl trivial ?_
     refine Vc.nil ?_
     refine aw_ret ?_
     refine t_ret ?_
     refine b_ret ?_
     refine t_ret ?_
     injection h with h
     subst h
     refine r_ret ?_
     refine o_ret ?_
     exact ends (Weak.refl _) rfl trivial
    ·
     refine s_false rfl hb10 ?_
     refine aw_skip ?_
     refine t_norm ?_
     refine aw_region ?_
     iterate 2 refine v_op hT hC rfl rfl rfl rfl trivial ?_
     obtain ⟨hq, h⟩ := req_some h
     refine v_op hT hC rfl rfl rfl rfl ⟨trivial, hq⟩ ?_
     refine v_op hT hC rfl rfl rfl rfl trivial ?_
     obtain ⟨hq, h⟩ := req_some h
     refine v_op hT hC rfl rfl rfl rfl ⟨trivial, hq⟩ ?_
     refine v_op hT hC rfl rfl rfl rfl trivial ?_
     refine Vc.nil ?_
     refine b_norm ?_
     refine t_norm ?_
     refine aw_region ?_
     iterate 2 refine v_op hT hC rfl rfl rfl rfl trivial ?_
     refine Vc.nil ?_
     injection h with h
     subst h
     refine r_go ?_
     try dsimp only
     apply w_conv hC [(192, 624)]
     ·
      exact co
     ·
      rfl
     ·
      decide
     ·
      rfl
   ·
    refine s_false rfl hb8 ?_
    refine aw_exit ?_
    refine t_exit ?_
    injection h with h
    subst h
    refine r_exit ?_
    refine o_both ?_
    apply w_conv hC []
    ·
     exact co
    ·
     rfl
    ·
     decide
    ·
     rfl
  ·
   intro v8 e
   subst e
   refine t_norm ?_
   refine s_reg ?_
   iterate 4 refine v_op hT hC rfl rfl rfl rfl trivial ?_
   refine Vc.nil ?_
   refine aw_ret ?_
   injection h with h
   subst h
   exact ends (Weak.refl _) rfl trivial
  ·
   intro r' σ' e hE
   subst e
   injection h with h
   subst h
   refine t_ret ?_
   exact hE
def impl_Unframed_res (r : ((List ByteArray) × Bool)) : AV := .tup [.own 16, .sv (.bool r.2)]
def impl_Unframed_obs (r : ((List ByteArray) × Bool)) : Objs := [(16, .row cByteArray r.1)]
theorem impl_Unframed_ac {p0 : ByteArray} {r : ((List ByteArray) × Bool)} (h : impl_Unframed p0 = some r) : AC Tryz.prog 29 [.sv (.str p0)] [] (impl_Unframed_res r) (impl_Unframed_obs r) := by
 refine ac_of_body hT Tryz.func29 rfl fun C hC => ?_
 unfold impl_Unframed at h
 refine s_reg ?_
 iterate 2 refine v_op hT hC rfl rfl rfl rfl trivial ?_
 refine Vc.nil ?_
 refine s_reg ?_
 iterate 2 refine v_op hT hC rfl rfl rfl rfl trivial ?_
 refine Vc.nil ?_
 refine s_in ?_
 refine s_reg ?_
 iterate 3 refine v_op hT hC rfl rfl rfl rfl trivial ?_
 refine Vc.nil ?_
 rcases sel_some h with ⟨hb1, h⟩ | ⟨hb1, h⟩
 ·
  refine s_true rfl hb1 ?_
  refine s_reg ?_
  iterate 3 refine v_op hT hC rfl rfl rfl rfl trivial ?_
  refine Vc.nil ?_
  refine aw_ret ?_
  refine t_ret ?_
  injection h with h
  subst h
  refine ends (τ := ⟨[(2, .own 16), (3, .sv (.bool false))], [(16, some (.row cByteArray ([] : List ByteArray)))]⟩) ?_ rfl ⟨rfl, trivial⟩
  apply w_conv hC [(16, 176)]
  ·
   exact co
  ·
   rfl
  ·
   decide
  ·
   rfl
 ·
  refine s_false rfl hb1 ?_
  refine aw_skip ?_
  refine t_norm ?_
  refine s_reg ?_
  refine v_op hT hC rfl rfl rfl rfl trivial ?_
  obtain ⟨q1, hq, h⟩ := bnd_some h
  refine v_call hC [(16, 272)] rfl rfl rfl rfl Tryz.call37 (impl_places_ac hq) rfl (by decide) trivial rfl (.inl rfl) rfl ?_
  iterate 3 refine v_op hT hC rfl rfl rfl rfl trivial ?_
  obtain ⟨hq, h⟩ := req_some h
  refine v_op hT hC rfl rfl rfl rfl ⟨trivial, hq⟩ ?_
  refine v_op hT hC rfl rfl rfl rfl trivial ?_
  refine Vc.nil ?_
  refine s_in ?_
  refine s_reg ?_
  refine v_op hT hC rfl rfl rfl rfl trivial ?_
  refine Vc.nil ?_
  refine live [0, 4, 5, 6] [176, 336] (s' := [_, _, _, _]) (o' := [_, _]) rfl rfl ?_
  obtain ⟨o9, hl, h⟩ := bnd_some h
  refine s_loopR (fun v4 => ([(6, .sv (.int .i64 v4.1))], [(176, some (.row cByteArray v4.2))])) (fun v7 => ([(5, .any), (6, .any)], [(176, some (.row cByteArray v7)), (336, none)])) (fun r => EndsA C T Tryz.f29.results.toList (impl_Unframed_res r) (impl_Unframed_obs r)) hl ?_ ?_ ?_ ?_
  ·
   try dsimp only
   apply w_conv hC []
   ·
    exact co
   ·
    rfl
   ·
    decide
   ·
    rfl
  ·
   intro v4 s hs
   have h := hs
   unfold impl_Unframed_l2 at h
   refine s_in ?_
   refine s_reg ?_
   iterate 5 refine v_op hT hC rfl rfl rfl rfl trivial ?_
   refine Vc.nil ?_
   rcases sel_some h with ⟨hb6, h⟩ | ⟨hb6, h⟩
   ·
    refine s_true rfl hb6 ?_
    refine aw_skip ?_
    refine t_norm ?_
    refine s_in ?_
    refine s_block ?_
    refine s_draw hm ?_
    iterate 3 refine v_op hT hC rfl rfl rfl rfl trivial ?_
    obtain ⟨hq, h⟩ := req_some h
    refine v_op hT hC rfl rfl rfl rfl hq ?_
    obtain ⟨hq, h⟩ := req_some h
    refine v_op hT hC rfl rfl rfl rfl hq ?_
    iterate 4 refine v_op hT hC rfl rfl rfl rfl trivial ?_
    obtain ⟨hq, h⟩ := req_some h
    refine v_op hT hC rfl rfl rfl rfl hq ?_
    obtain ⟨hq, h⟩ := req_some h
    refine v_op hT hC rfl rfl rfl rfl hq ?_
    obtain ⟨hq, h⟩ := req_some h
    refine v_op hT hC rfl rfl rfl rfl hq ?_
    obtain ⟨q8, hq, h⟩ := bnd_some h
    refine v_call hC [] rfl rfl rfl rfl Tryz.call38 (impl_Unescaped_ac hq) rfl (by decide) trivial rfl (.inl rfl) rfl ?_
    iterate 5 refine v_op hT hC rfl rfl rfl rfl trivial ?_
    refine Vc.nil ⟨by kernel_rfl, ?_⟩
    refine s_in ?_
    refine s_reg ?_
    iterate 2 refine v_op hT hC rfl rfl rfl rfl trivial ?_
    refine Vc.nil ?_
    rcases sel_some h with ⟨hb7, h⟩ | ⟨hb7, h⟩
    ·
     refine s_true rfl hb7 ?_
     refine s_reg ?_
     iterate 3 refine v_op hT hC rfl rfl rfl rfl trivial ?_
     refine Vc.nil ?_
     refine aw_ret ?_
     refine t_ret ?_
     refine b_ret ?_
     refine t_ret ?_
     injection h with h
     subst h
     refine r_ret ?_
     refine o_ret ?_
     refine ends (τ := ⟨[(2, .own 16), (3, .sv (.bool false))], [(16, some (.row cByteArray ([] : List ByteArray)))]⟩) ?_ rfl ⟨rfl, trivial⟩
     apply w_conv hC [(16, 752)]
     ·
      exact co
     ·
      rfl
     ·
      decide
     ·
      rfl
    ·
     refine s_false rfl hb7 ?_
     refine aw_skip ?_
     refine t_norm ?_
     refine aw_region ?_
     iterate 3 refine v_op hT hC rfl rfl rfl rfl trivial ?_
     obtain ⟨hq, h⟩ := req_some h
     refine v_op hT hC rfl rfl rfl rfl ⟨fun _ _ => rfl, by rw [cByteArray_id]; exact hq⟩ ?_
     rw [cByteArray_id]
     refine v_op hT hC rfl rfl rfl rfl trivial ?_
     refine Vc.nil ?_
     refine b_norm ?_
     refine t_norm ?_
     refine aw_region ?_
     iterate 3 refine v_op hT hC rfl rfl rfl rfl trivial ?_
     refine Vc.nil ?_
     injection h with h
     subst h
     refine r_go ?_
     try dsimp only
     apply w_conv hC [(176, 816)]
     ·
      exact co
     ·
      rfl
     ·
      decide
     ·
      rfl
   ·
    refine s_false rfl hb6 ?_
    refine aw_exit ?_
    refine t_exit ?_
    injection h with h
    subst h
    refine r_exit ?_
    refine o_both ?_
    apply w_conv hC []
    ·
     exact co
    ·
     rfl
    ·
     decide
    ·
     rfl
  ·
   intro v7 e
   subst e
   refine t_norm ?_
   refine s_in ?_
   refine s_reg ?_
   refine v_op hT hC rfl rfl rfl rfl trivial ?_
   obtain ⟨q10, hq, h⟩ := bnd_some h
   refine v_call hC [] rfl rfl rfl rfl Tryz.call30 (impl_Framed_ac hq) rfl (by decide) trivial rfl (.inr ⟨rfl, trivial⟩) rfl ?_
   iterate 5 refine v_op hT hC rfl rfl rfl rfl trivial ?_
   refine Vc.nil ?_
   refine live [0, 4, 9, 10] [176] (s' := [_, _, _, _]) (o' := [_]) rfl rfl ?_
   obtain ⟨v11, h1, h⟩ := bnd_some h
   refine aw_to ([(63, .sv (.bool v11)), (0, .any), (9, .any), (10, .any)], []) ?_ ?_
   ·
    have h := h1
    refine aw_region ?_
    iterate 3 refine v_op hT hC rfl rfl rfl rfl trivial ?_
    rcases sel_some h with ⟨hb8, h⟩ | ⟨hb8, h⟩
    ·
     iterate 3 refine v_on hT hC rfl rfl rfl rfl (congrArg Bool.not hb8) rfl rfl rfl trivial ?_
     refine v_pick hC rfl rfl rfl (b := false) (congrArg Bool.not hb8) rfl rfl rfl trivial ?_
     refine Vc.nil ?_
     injection h with h
     subst h
     refine m_norm ?_
     apply w_conv hC []
     ·
      exact co
     ·
      rfl
     ·
      decide
     ·
      rfl
    ·
     refine v_off hC rfl rfl rfl rfl (congrArg Bool.not hb8) rfl rfl ?_
     refine v_off hC rfl rfl rfl rfl (congrArg Bool.not hb8) rfl rfl ?_
     refine v_off hC rfl rfl rfl rfl (congrArg Bool.not hb8) rfl rfl ?_
     refine v_pick hC rfl rfl rfl (b := true) (congrArg Bool.not hb8) rfl rfl rfl trivial ?_
     refine Vc.nil ?_
     injection h with h
     subst h
     refine m_norm ?_
     apply w_conv hC []
     ·
      exact co
     ·
      rfl
     ·
      decide
     ·
      rfl
   rcases sel_some h with ⟨hb9, h⟩ | ⟨hb9, h⟩
   ·
    refine s_true rfl hb9 ?_
    refine s_reg ?_
    iterate 3 refine v_op hT hC rfl rfl rfl rfl trivial ?_
    refine Vc.nil ?_
    refine aw_ret ?_
    refine t_ret ?_
    injection h with h
    subst h
    refine ends (τ := ⟨[(2, .own 16), (3, .sv (.bool false))], [(16, some (.row cByteArray ([] : List ByteArray)))]⟩) ?_ rfl ⟨rfl, trivial⟩
    apply w_conv hC [(16, 1024)]
    ·
     exact co
    ·
     rfl
    ·
     decide
    ·
     rfl
   ·
    refine s_false rfl hb9 ?_
    refine aw_skip ?_
    refine t_norm ?_
    refine s_reg ?_
    iterate 3 refine v_op hT hC rfl rfl rfl rfl trivial ?_
    refine Vc.nil ?_
    refine aw_ret ?_
    injection h with h
    subst h
    refine ends (τ := ⟨[(2, .own 16), (3, .sv (.bool true))], [(16, some (.row cByteArray v7))]⟩) ?_ rfl ⟨rfl, trivial⟩
    apply w_conv hC [(16, 176)]
    ·
     exact co
    ·
     rfl
    ·
     decide
    ·
     rfl
  ·
   intro r' σ' e hE
   subst e
   injection h with h
   subst h
   refine t_ret ?_
   exact hE
def impl_PictureOf_res (r : ((List ByteArray) × Bool)) : AV := .tup [.own 16, .sv (.bool r.2)]
def impl_PictureOf_obs (r : ((List ByteArray) × Bool)) : Objs := [(16, .row cByteArray r.1)]
theorem impl_PictureOf_ac {p0 : (List Packet)} {r : ((List ByteArray) × Bool)} (h : impl_PictureOf p0 = some r) : AC Tryz.prog 14 [.sv (cPacket.sv p0)] [] (impl_PictureOf_res r) (impl_PictureOf_obs r) := by
 refine ac_of_body hT Tryz.func14 rfl fun C hC => ?_
 unfold impl_PictureOf at h
 refine s_reg ?_
 iterate 2 refine v_op hT hC rfl rfl rfl rfl trivial ?_
 refine Vc.nil ?_
 refine s_in ?_
 refine s_reg ?_
 iterate 2 refine v_op hT hC rfl rfl rfl rfl trivial ?_
 obtain ⟨q1, hq, h⟩ := bnd_some h
 refine v_call hC [] rfl rfl rfl rfl Tryz.call26 (impl_within_ac hq) rfl (by decide) trivial rfl (.inl rfl) rfl ?_
 refine v_op hT hC rfl rfl rfl rfl trivial ?_
 refine Vc.nil ?_
 rcases sel_some h with ⟨hb1, h⟩ | ⟨hb1, h⟩
 ·
  refine s_true rfl hb1 ?_
  refine s_reg ?_
  iterate 3 refine v_op hT hC rfl rfl rfl rfl trivial ?_
  refine Vc.nil ?_
  refine aw_ret ?_
  refine t_ret ?_
  injection h with h
  subst h
  refine ends (τ := ⟨[(2, .own 16), (3, .sv (.bool false))], [(16, some (.row cByteArray ([] : List ByteArray)))]⟩) ?_ rfl ⟨rfl, trivial⟩
  apply w_conv hC [(16, 208)]
  ·
   exact co
  ·
   rfl
  ·
   decide
  ·
   rfl
 ·
  refine s_false rfl hb1 ?_
  refine aw_skip ?_
  refine t_norm ?_
  refine s_reg ?_
  refine v_op hT hC rfl rfl rfl rfl trivial ?_
  refine Vc.nil ?_
  refine s_in ?_
  refine s_reg ?_
  iterate 3 refine v_op hT hC rfl rfl rfl rfl trivial ?_
  refine Vc.nil ?_
  refine live [0, 4, 14, 15, 16] [] (s' := [_, _, _, _, _]) (o' := []) rfl rfl ?_
  obtain ⟨o15, hl, h⟩ := bnd_some h
  refine s_loopR (fun v6 => ([(4, .sv (.str v6.1)), (16, .sv (.int .i64 v6.2))], [])) (fun v11 => ([(4, .sv (.str v11)), (0, .any), (14, .any), (15, .any), (16, .any)], [])) (fun r => EndsA C T Tryz.f14.results.toList (impl_PictureOf_res r) (impl_PictureOf_obs r)) hl ?_ ?_ ?_ ?_
  ·
   try dsimp only
   apply w_conv hC []
   ·
    exact co
   ·
    rfl
   ·
    decide
   ·
    rfl
  ·
   intro v6 s hs
   have h := hs
   unfold impl_PictureOf_l2 at h
   refine s_reg ?_
   refine v_op hT hC rfl rfl rfl rfl trivial ?_
   refine Vc.nil ?_
   refine s_in ?_
   rcases sel_some h with ⟨hb14, h⟩ | ⟨hb14, h⟩
   ·
    refine s_true rfl hb14 ?_
    refine aw_skip ?_
    refine t_norm ?_
    refine s_in ?_
    refine s_block ?_
    refine s_reg ?_
    refine v_op hT hC rfl rfl rfl rfl trivial ?_
    obtain ⟨hq, h⟩ := req_some h
    refine v_op hT hC rfl rfl rfl rfl hq ?_
    iterate 4 refine v_op hT hC rfl rfl rfl rfl trivial ?_
    refine Vc.nil ?_
    refine s_in ?_
    refine live [0, 4, 5, 6, 14, 15, 16] [96] (s' := [_, _, _, _, _, _, _]) (o' := [_]) rfl rfl ?_
    obtain ⟨v12, h1, h⟩ := bnd_some h
    refine aw_to ([(56, .sv (.bool v12)), (5, .any)], []) ?_ ?_
    ·
     have h := h1
     refine aw_draw hm ?_
     refine v_op hT hC rfl rfl rfl rfl trivial ?_
     obtain ⟨q13, hq, h⟩ := bnd_some h
     refine v_call hC [] rfl rfl rfl rfl Tryz.call24 (impl_PacketOk_ac hq) rfl (by decide) trivial rfl (.inl rfl) rfl ?_
     iterate 2 refine v_op hT hC rfl rfl rfl rfl trivial ?_
     rcases sel_some h with ⟨hb15, h⟩ | ⟨hb15, h⟩
     ·
      iterate 5 refine v_on hT hC rfl rfl rfl rfl (congrArg Bool.not hb15) rfl rfl rfl trivial ?_
      refine v_pick hC rfl rfl rfl (b := false) (congrArg Bool.not hb15) rfl rfl rfl trivial ?_
      refine v_op hT hC rfl rfl rfl rfl trivial ?_
      rcases sel_some h with ⟨hb16, h⟩ | ⟨hb16, h⟩
      ·
       iterate 8 refine v_on hT hC rfl rfl rfl rfl (congrArg Bool.not hb16) rfl rfl rfl trivial ?_
       refine v_pick hC rfl rfl rfl (b := false) (congrArg Bool.not hb16) rfl rfl rfl trivial ?_
       refine v_op hT hC rfl rfl rfl rfl trivial ?_
       rcases sel_some h with ⟨hb17, h⟩ | ⟨hb17, h⟩
       ·
        iterate 3 refine v_on hT hC rfl rfl rfl rfl (congrArg Bool.not hb17) rfl rfl rfl trivial ?_
        rcases sel_some h with ⟨hb18, h⟩ | ⟨hb18, h⟩
        ·
         iterate 5 refine v_on hT hC rfl rfl rfl rfl hb18 rfl rfl rfl trivial ?_
         obtain ⟨hq, h⟩ := req_some h
         refine v_on hT hC rfl rfl rfl rfl hb18 rfl rfl rfl hq ?_
         iterate 2 refine v_on hT hC rfl rfl rfl rfl hb18 rfl rfl rfl trivial ?_
         obtain ⟨q14, hq, h⟩ := bnd_some h
         refine v_call_on hC [] rfl rfl rfl rfl hb18 rfl rfl rfl Tryz.call12 (impl_SeqPlus_ac hq) rfl (by decide) trivial rfl (.inl rfl) rfl ?_
         refine v_on hT hC rfl rfl rfl rfl hb18 rfl rfl rfl trivial ?_
         refine v_pick_on hC rfl rfl rfl rfl (congrArg Bool.not hb17) rfl rfl (b := true) hb18 rfl rfl rfl trivial ?_
         refine v_pick hC rfl rfl rfl (b := false) (congrArg Bool.not hb17) rfl rfl rfl trivial ?_
         refine Vc.nil ⟨by kernel_rfl, ?_⟩
         injection h with h
         subst h
         refine m_norm ?_
         apply w_conv hC []
         ·
          exact co
         ·
          rfl
         ·
          decide
         ·
          rfl
        ·
         refine v_off hC rfl rfl rfl rfl hb18 rfl rfl ?_
         refine v_off hC rfl rfl rfl rfl hb18 rfl rfl ?_
         refine v_off hC rfl rfl rfl rfl hb18 rfl rfl ?_
         refine v_off hC rfl rfl rfl rfl hb18 rfl rfl ?_
         refine v_off hC rfl rfl rfl rfl hb18 rfl rfl ?_
         refine v_off hC rfl rfl rfl rfl hb18 rfl rfl ?_
         refine v_off hC rfl rfl rfl rfl hb18 rfl rfl ?_
         refine v_off hC rfl rfl rfl rfl hb18 rfl rfl ?_
         refine v_off hC rfl rfl rfl rfl hb18 rfl rfl ?_
         refine v_off hC rfl rfl rfl rfl hb18 rfl rfl ?_
         refine v_pick_on hC rfl rfl rfl rfl (congrArg Bool.not hb17) rfl rfl (b := false) hb18 rfl rfl rfl trivial ?_
         refine v_pick hC rfl rfl rfl (b := false) (congrArg Bool.not hb17) rfl rfl rfl trivial ?_
         refine Vc.nil ⟨by kernel_rfl, ?_⟩
         injection h with h
         subst h
         refine m_norm ?_
         apply w_conv hC []
         ·
          exact co
         ·
          rfl
         ·
          decide
         ·
          rfl
       ·
        refine v_off hC rfl rfl rfl rfl (congrArg Bool.not hb17) rfl rfl ?_
        refine v_off hC rfl rfl rfl rfl (congrArg Bool.not hb17) rfl rfl ?_
        refine v_off hC rfl rfl rfl rfl (congrArg Bool.not hb17) rfl rfl ?_
        iterate 10 refine v_dead hC rfl rfl rfl rfl rfl rfl ?_
        refine v_off hC rfl rfl rfl rfl (congrArg Bool.not hb17) rfl rfl ?_
        refine v_pick hC rfl rfl rfl (b := true) (congrArg Bool.not hb17) rfl rfl rfl trivial ?_
        refine Vc.nil ⟨by kernel_rfl, ?_⟩
        injection h with h
        subst h
        refine m_norm ?_
        apply w_conv hC []
        ·
         exact co
        ·
         rfl
        ·
         decide
        ·
         rfl
      ·
       refine v_off hC rfl rfl rfl rfl (congrArg Bool.not hb16) rfl rfl ?_
       refine v_off hC rfl rfl rfl rfl (congrArg Bool.not hb16) rfl rfl ?_
       refine v_off hC rfl rfl rfl rfl (congrArg Bool.not hb16) rfl rfl ?_
       refine v_off hC rfl rfl rfl rfl (congrArg Bool.not hb16) rfl rfl ?_
       refine v_off hC rfl rfl rfl rfl (congrArg Bool.not hb16) rfl rfl ?_
       refine v_off hC rfl rfl rfl rfl (congrArg Bool.not hb16) rfl rfl ?_
       refine v_off hC rfl rfl rfl rfl (congrArg Bool.not hb16) rfl rfl ?_
       refine v_off hC rfl rfl rfl rfl (congrArg Bool.not hb16) rfl rfl ?_
       refine v_pick hC rfl rfl rfl (b := true) (congrArg Bool.not hb16) rfl rfl rfl trivial ?_
       refine v_op hT hC rfl rfl rfl rfl trivial ?_
       refine v_off hC rfl rfl rfl rfl rfl rfl rfl ?_
       refine v_off hC rfl rfl rfl rfl rfl rfl rfl ?_
       refine v_off hC rfl rfl rfl rfl rfl rfl rfl ?_
       iterate 10 refine v_dead hC rfl rfl rfl rfl rfl rfl ?_
       refine v_off hC rfl rfl rfl rfl rfl rfl rfl ?_
       refine v_op hT hC rfl rfl rfl rfl trivial ?_
       refine Vc.nil ⟨by kernel_rfl, ?_⟩
       injection h with h
       subst h
       refine m_norm ?_
       apply w_conv hC []
       ·
        exact co
       ·
        rfl
       ·
        decide
       ·
        rfl
     ·
      refine v_off hC rfl rfl rfl rfl (congrArg Bool.not hb15) rfl rfl ?_
      refine v_off hC rfl rfl rfl rfl (congrArg Bool.not hb15) rfl rfl ?_
      refine v_off hC rfl rfl rfl rfl (congrArg Bool.not hb15) rfl rfl ?_
      refine v_off hC rfl rfl rfl rfl (congrArg Bool.not hb15) rfl rfl ?_
      refine v_off hC rfl rfl rfl rfl (congrArg Bool.not hb15) rfl rfl ?_
      refine v_pick hC rfl rfl rfl (b := true) (congrArg Bool.not hb15) rfl rfl rfl trivial ?_
      refine v_op hT hC rfl rfl rfl rfl trivial ?_
      refine v_off hC rfl rfl rfl rfl rfl rfl rfl ?_
      refine v_off hC rfl rfl rfl rfl rfl rfl rfl ?_
      refine v_off hC rfl rfl rfl rfl rfl rfl rfl ?_
      refine v_off hC rfl rfl rfl rfl rfl rfl rfl ?_
      refine v_off hC rfl rfl rfl rfl rfl rfl rfl ?_
      refine v_off hC rfl rfl rfl rfl rfl rfl rfl ?_
      refine v_off hC rfl rfl rfl rfl rfl rfl rfl ?_
      refine v_off hC rfl rfl rfl rfl rfl rfl rfl ?_
      iterate 2 refine v_op hT hC rfl rfl rfl rfl trivial ?_
      refine v_off hC rfl rfl rfl rfl rfl rfl rfl ?_
      refine v_off hC rfl rfl rfl rfl rfl rfl rfl ?_
      refine v_off hC rfl rfl rfl rfl rfl rfl rfl ?_
      iterate 10 refine v_dead hC rfl rfl rfl rfl rfl rfl ?_
      refine v_off hC rfl rfl rfl rfl rfl rfl rfl ?_
      refine v_op hT hC rfl rfl rfl rfl trivial ?_
      refine Vc.nil ⟨by kernel_rfl, ?_⟩
      injection h with h
      subst h
      refine m_norm ?_
      apply w_conv hC []
      ·
       exact co
      ·
       rfl
      ·
       decide
      ·
       rfl
    rcases sel_some h with ⟨hb19, h⟩ | ⟨hb19, h⟩
    ·
     refine s_true rfl hb19 ?_
     refine s_reg ?_
     iterate 3 refine v_op hT hC rfl rfl rfl rfl trivial ?_
     refine Vc.nil ?_
     refine aw_ret ?_
     refine t_ret ?_
     refine b_ret ?_
     refine t_ret ?_
     injection h with h
     subst h
     refine r_ret ?_
     refine o_ret ?_
     refine ends (τ := ⟨[(2, .own 16), (3, .sv (.bool false))], [(16, some (.row cByteArray ([] : List ByteArray)))]⟩) ?_ rfl ⟨rfl, trivial⟩
     apply w_conv hC [(16, 912)]
     ·
      exact co
     ·
      rfl
     ·
      decide
     ·
      rfl
    ·
     refine s_false rfl hb19 ?_
     refine aw_skip ?_
     refine t_norm ?_
     refine aw_region ?_
     iterate 3 refine v_op hT hC rfl rfl rfl rfl trivial ?_
     obtain ⟨hq, h⟩ := req_some h
     refine v_op hT hC rfl rfl rfl rfl hq ?_
     refine v_op hT hC rfl rfl rfl rfl trivial ?_
     refine Vc.nil ?_
     refine b_norm ?_
     refine t_norm ?_
     refine aw_region ?_
     iterate 2 refine v_op hT hC rfl rfl rfl rfl trivial ?_
     refine Vc.nil ?_
     injection h with h
     subst h
     refine r_go ?_
     try dsimp only
     apply w_conv hC []
     ·
      exact co
     ·
      rfl
     ·
      decide
     ·
      rfl
   ·
    refine s_false rfl hb14 ?_
    refine aw_exit ?_
    refine t_exit ?_
    injection h with h
    subst h
    refine r_exit ?_
    refine o_both ?_
    apply w_conv hC []
    ·
     exact co
    ·
     rfl
    ·
     decide
    ·
     rfl
  ·
   intro v11 e
   subst e
   refine t_norm ?_
   refine s_reg ?_
   refine v_op hT hC rfl rfl rfl rfl trivial ?_
   obtain ⟨q16, hq, h⟩ := bnd_some h
   refine v_call hC [(16, 1040)] rfl rfl rfl rfl Tryz.call29 (impl_Unframed_ac hq) rfl (by decide) trivial rfl (.inl rfl) rfl ?_
   iterate 5 refine v_op hT hC rfl rfl rfl rfl trivial ?_
   refine Vc.nil ?_
   refine s_in ?_
   refine live [7, 8] [1040] (s' := [_, _]) (o' := [_]) rfl rfl ?_
   obtain ⟨v17, h1, h⟩ := bnd_some h
   refine aw_to ([(74, .sv (.bool v17)), (8, .any)], []) ?_ ?_
   ·
    have h := h1
    refine aw_region ?_
    iterate 3 refine v_op hT hC rfl rfl rfl rfl trivial ?_
    rcases sel_some h with ⟨hb20, h⟩ | ⟨hb20, h⟩
    ·
     iterate 3 refine v_on hT hC rfl rfl rfl rfl (congrArg Bool.not hb20) rfl rfl rfl trivial ?_
     refine v_pick hC rfl rfl rfl (b := false) (congrArg Bool.not hb20) rfl rfl rfl trivial ?_
     refine Vc.nil ?_
     injection h with h
     subst h
     refine m_norm ?_
     apply w_conv hC []
     ·
      exact co
     ·
      rfl
     ·
      decide
     ·
      rfl
    ·
     refine v_off hC rfl rfl rfl rfl (congrArg Bool.not hb20) rfl rfl ?_
     refine v_off hC rfl rfl rfl rfl (congrArg Bool.not hb20) rfl rfl ?_
     refine v_off hC rfl rfl rfl rfl (congrArg Bool.not hb20) rfl rfl ?_
     refine v_pick hC rfl rfl rfl (b := true) (congrArg Bool.not hb20) rfl rfl rfl trivial ?_
     refine Vc.nil ?_
     injection h with h
     subst h
     refine m_norm ?_
     apply w_conv hC []
     ·
      exact co
     ·
      rfl
     ·
      decide
     ·
      rfl
   rcases sel_some h with ⟨hb21, h⟩ | ⟨hb21, h⟩
   ·
    refine s_true rfl hb21 ?_
    refine s_reg ?_
    iterate 3 refine v_op hT hC rfl rfl rfl rfl trivial ?_
    refine Vc.nil ?_
    refine aw_ret ?_
    refine t_ret ?_
    injection h with h
    subst h
    refine ends (τ := ⟨[(2, .own 16), (3, .sv (.bool false))], [(16, some (.row cByteArray ([] : List ByteArray)))]⟩) ?_ rfl ⟨rfl, trivial⟩
    apply w_conv hC [(16, 1200)]
    ·
     exact co
    ·
     rfl
    ·
     decide
    ·
     rfl
   ·
    refine s_false rfl hb21 ?_
    refine aw_skip ?_
    refine t_norm ?_
    refine s_reg ?_
    iterate 3 refine v_op hT hC rfl rfl rfl rfl trivial ?_
    refine Vc.nil ?_
    refine aw_ret ?_
    injection h with h
    subst h
    refine ends (τ := ⟨[(2, .own 16), (3, .sv (.bool true))], [(16, some (.row cByteArray q16.1))]⟩) ?_ rfl ⟨rfl, trivial⟩
    apply w_conv hC [(16, 1040)]
    ·
     exact co
    ·
     rfl
    ·
     decide
    ·
     rfl
  ·
   intro r' σ' e hE
   subst e
   injection h with h
   subst h
   refine t_ret ?_
   exact hE
def impl_PacketsOf_res (r : ((List Packet) × Bool)) : AV := .tup [.own 16, .sv (.bool r.2)]
def impl_PacketsOf_obs (r : ((List Packet) × Bool)) : Objs := [(16, .row cPacket r.1)]
theorem impl_PacketsOf_ac {p0 : (List ByteArray)} {p1 : Int} {p2 : Int} {r : ((List Packet) × Bool)} (h : impl_PacketsOf p0 p1 p2 = some r) : AC Tryz.prog 15 [.sv (cByteArray.sv p0), .sv (.int .i64 p1), .sv (.int .i64 p2)] [] (impl_PacketsOf_res r) (impl_PacketsOf_obs r) := by
 refine ac_of_body hT Tryz.func15 rfl fun C hC => ?_
 unfold impl_PacketsOf at h
 refine s_reg ?_
 iterate 2 refine v_op hT hC rfl rfl rfl rfl trivial ?_
 refine Vc.nil ?_
 refine s_reg ?_
 iterate 2 refine v_op hT hC rfl rfl rfl rfl trivial ?_
 refine Vc.nil ?_
 refine s_reg ?_
 refine v_op hT hC rfl rfl rfl rfl trivial ?_
 obtain ⟨q1, hq, h⟩ := bnd_some h
 refine v_call hC [] rfl rfl rfl rfl Tryz.call30 (impl_Framed_ac hq) rfl (by decide) trivial rfl (.inl rfl) rfl ?_
 iterate 5 refine v_op hT hC rfl rfl rfl rfl trivial ?_
 refine Vc.nil ?_
 refine s_in ?_
 refine live [1, 2, 8, 9, 10] [208] (s' := [_, _, _, _, _]) (o' := [_]) rfl rfl ?_
 obtain ⟨v2, h1, h⟩ := bnd_some h
 refine aw_to ([(44, .sv (.bool v2)), (10, .any)], []) ?_ ?_
 ·
  have h := h1
  refine aw_region ?_
  iterate 3 refine v_op hT hC rfl rfl rfl rfl trivial ?_
  rcases sel_some h with ⟨hb1, h⟩ | ⟨hb1, h⟩
  ·
   iterate 2 refine v_on hT hC rfl rfl rfl rfl (congrArg Bool.not hb1) rfl rfl rfl trivial ?_
   refine v_pick hC rfl rfl rfl (b := false) (congrArg Bool.not hb1) rfl rfl rfl trivial ?_
   refine v_op hT hC rfl rfl rfl rfl trivial ?_
   rcases sel_some h with ⟨hb2, h⟩ | ⟨hb2, h⟩
   ·
    refine v_off hC rfl rfl rfl rfl hb2 rfl rfl ?_
    refine v_off hC rfl rfl rfl rfl hb2 rfl rfl ?_
    refine v_off hC rfl rfl rfl rfl hb2 rfl rfl ?_
    refine v_pick hC rfl rfl rfl (b := true) hb2 rfl rfl rfl trivial ?_
    refine v_op hT hC rfl rfl rfl rfl trivial ?_
    refine v_off hC rfl rfl rfl rfl rfl rfl rfl ?_
    refine v_off hC rfl rfl rfl rfl rfl rfl rfl ?_
    refine v_off hC rfl rfl rfl rfl rfl rfl rfl ?_
    iterate 2 refine v_op hT hC rfl rfl rfl rfl trivial ?_
    refine v_off hC rfl rfl rfl rfl rfl rfl rfl ?_
    refine v_off hC rfl rfl rfl rfl rfl rfl rfl ?_
    refine v_off hC rfl rfl rfl rfl rfl rfl rfl ?_
    refine v_off hC rfl rfl rfl rfl rfl rfl rfl ?_
    refine v_off hC rfl rfl rfl rfl rfl rfl rfl ?_
    refine v_off hC rfl rfl rfl rfl rfl rfl rfl ?_
    refine v_off hC rfl rfl rfl rfl rfl rfl rfl ?_
    refine v_off hC rfl rfl rfl rfl rfl rfl rfl ?_
    refine v_op hT hC rfl rfl rfl rfl trivial ?_
    refine Vc.nil ?_
    injection h with h
    subst h
    refine m_norm ?_
    apply w_conv hC []
    ·
     exact co
    ·
     rfl
    ·
     decide
    ·
     rfl
   ·
    refine v_on hT hC rfl rfl rfl rfl hb2 rfl rfl rfl trivial ?_
    obtain ⟨q3, hq, h⟩ := bnd_some h
    refine v_call_on hC [] rfl rfl rfl rfl hb2 rfl rfl rfl Tryz.call28 (impl_isNumber_ac hq) rfl (by decide) trivial rfl (.inl rfl) rfl ?_
    refine v_on hT hC rfl rfl rfl rfl hb2 rfl rfl rfl trivial ?_
    refine v_pick hC rfl rfl rfl (b := false) hb2 rfl rfl rfl trivial ?_
    refine v_op hT hC rfl rfl rfl rfl trivial ?_
    rcases sel_some h with ⟨hb3, h⟩ | ⟨hb3, h⟩
    ·
     refine v_on hT hC rfl rfl rfl rfl (congrArg Bool.not hb3) rfl rfl rfl trivial ?_
     obtain ⟨q4, hq, h⟩ := bnd_some h
     refine v_call_on hC [] rfl rfl rfl rfl (congrArg Bool.not hb3) rfl rfl rfl Tryz.call26 (impl_within_ac hq) rfl (by decide) trivial rfl (.inl rfl) rfl ?_
     refine v_on hT hC rfl rfl rfl rfl (congrArg Bool.not hb3) rfl rfl rfl trivial ?_
     refine v_pick hC rfl rfl rfl (b := false) (congrArg Bool.not hb3) rfl rfl rfl trivial ?_
     refine v_op hT hC rfl rfl rfl rfl trivial ?_
     rcases sel_some h with ⟨hb4, h⟩ | ⟨hb4, h⟩
     ·
      iterate 6 refine v_on hT hC rfl rfl rfl rfl (congrArg Bool.not hb4) rfl rfl rfl trivial ?_
      obtain ⟨hq, h⟩ := req_some h
      refine v_on hT hC rfl rfl rfl rfl (congrArg Bool.not hb4) rfl rfl rfl hq ?_
      refine v_on hT hC rfl rfl rfl rfl (congrArg Bool.not hb4) rfl rfl rfl trivial ?_
      refine v_pick hC rfl rfl rfl (b := false) (congrArg Bool.not hb4) rfl rfl rfl trivial ?_
      refine Vc.nil ?_
      injection h with h
      subst h
      refine m_norm ?_
      apply w_conv hC []
      ·
       exact co
      ·
       rfl
      ·
       decide
      ·
       rfl
     ·
      refine v_off hC rfl rfl rfl rfl (congrArg Bool.not hb4) rfl rfl ?_
      refine v_off hC rfl rfl rfl rfl (congrArg Bool.not hb4) rfl rfl ?_
      refine v_off hC rfl rfl rfl rfl (congrArg Bool.not hb4) rfl rfl ?_
      refine v_off hC rfl rfl rfl rfl (congrArg Bool.not hb4) rfl rfl ?_
      refine v_off hC rfl rfl rfl rfl (congrArg Bool.not hb4) rfl rfl ?_
      refine v_off hC rfl rfl rfl rfl (congrArg Bool.not hb4) rfl rfl ?_
      refine v_off hC rfl rfl rfl rfl (congrArg Bool.not hb4) rfl rfl ?_
      refine v_off hC rfl rfl rfl rfl (congrArg Bool.not hb4) rfl rfl ?_
      refine v_pick hC rfl rfl rfl (b := true) (congrArg Bool.not hb4) rfl rfl rfl trivial ?_
      refine Vc.nil ?_
      injection h with h
      subst h
      refine m_norm ?_
      apply w_conv hC []
      ·
       exact co
      ·
       rfl
      ·
       decide
      ·
       rfl
    ·
     refine v_off hC rfl rfl rfl rfl (congrArg Bool.not hb3) rfl rfl ?_
     refine v_off hC rfl rfl rfl rfl (congrArg Bool.not hb3) rfl rfl ?_
     refine v_off hC rfl rfl rfl rfl (congrArg Bool.not hb3) rfl rfl ?_
     refine v_pick hC rfl rfl rfl (b := true) (congrArg Bool.not hb3) rfl rfl rfl trivial ?_
     refine v_op hT hC rfl rfl rfl rfl trivial ?_
     refine v_off hC rfl rfl rfl rfl rfl rfl rfl ?_
     refine v_off hC rfl rfl rfl rfl rfl rfl rfl ?_
     refine v_off hC rfl rfl rfl rfl rfl rfl rfl ?_
     refine v_off hC rfl rfl rfl rfl rfl rfl rfl ?_
     refine v_off hC rfl rfl rfl rfl rfl rfl rfl ?_
     refine v_off hC rfl rfl rfl rfl rfl rfl rfl ?_
     refine v_off hC rfl rfl rfl rfl rfl rfl rfl ?_
     refine v_off hC rfl rfl rfl rfl rfl rfl rfl ?_
     refine v_op hT hC rfl rfl rfl rfl trivial ?_
     refine Vc.nil ?_
     injection h with h
     subst h
     refine m_norm ?_
     apply w_conv hC []
     ·
      exact co
     ·
      rfl
     ·
      decide
     ·
      rfl
  ·
   refine v_off hC rfl rfl rfl rfl (congrArg Bool.not hb1) rfl rfl ?_
   refine v_off hC rfl rfl rfl rfl (congrArg Bool.not hb1) rfl rfl ?_
   refine v_pick hC rfl rfl rfl (b := true) (congrArg Bool.not hb1) rfl rfl rfl trivial ?_
   refine v_op hT hC rfl rfl rfl rfl trivial ?_
   refine v_off hC rfl rfl rfl rfl rfl rfl rfl ?_
   refine v_off hC rfl rfl rfl rfl rfl rfl rfl ?_
   refine v_off hC rfl rfl rfl rfl rfl rfl rfl ?_
   iterate 2 refine v_op hT hC rfl rfl rfl rfl trivial ?_
   refine v_off hC rfl rfl rfl rfl rfl rfl rfl ?_
   refine v_off hC rfl rfl rfl rfl rfl rfl rfl ?_
   refine v_off hC rfl rfl rfl rfl rfl rfl rfl ?_
   iterate 2 refine v_op hT hC rfl rfl rfl rfl trivial ?_
   refine v_off hC rfl rfl rfl rfl rfl rfl rfl ?_
   refine v_off hC rfl rfl rfl rfl rfl rfl rfl ?_
   refine v_off hC rfl rfl rfl rfl rfl rfl rfl ?_
   refine v_off hC rfl rfl rfl rfl rfl rfl rfl ?_
   refine v_off hC rfl rfl rfl rfl rfl rfl rfl ?_
   refine v_off hC rfl rfl rfl rfl rfl rfl rfl ?_
   refine v_off hC rfl rfl rfl rfl rfl rfl rfl ?_
   refine v_off hC rfl rfl rfl rfl rfl rfl rfl ?_
   refine v_op hT hC rfl rfl rfl rfl trivial ?_
   refine Vc.nil ?_
   injection h with h
   subst h
   refine m_norm ?_
   apply w_conv hC []
   ·
    exact co
   ·
    rfl
   ·
    decide
   ·
    rfl
 rcases sel_some h with ⟨hb5, h⟩ | ⟨hb5, h⟩
 ·
  refine s_true rfl hb5 ?_
  refine s_reg ?_
  iterate 3 refine v_op hT hC rfl rfl rfl rfl trivial ?_
  refine Vc.nil ?_
  refine aw_ret ?_
  refine t_ret ?_
  injection h with h
  subst h
  refine ends (τ := ⟨[(6, .own 16), (7, .sv (.bool false))], [(16, some (.row cPacket ([] : List Packet)))]⟩) ?_ rfl ⟨rfl, trivial⟩
  apply w_conv hC [(16, 208)]
  ·
   exact co
  ·
   rfl
  ·
   decide
  ·
   rfl
 ·
  refine s_false rfl hb5 ?_
  refine aw_skip ?_
  refine t_norm ?_
  refine s_in ?_
  refine s_reg ?_
  refine v_op hT hC rfl rfl rfl rfl trivial ?_
  refine Vc.nil ?_
  refine live [1, 2, 8, 9, 11] [208] (s' := [_, _, _, _, _]) (o' := [_]) rfl rfl ?_
  obtain ⟨v10, hl, h⟩ := bnd_some h
  refine s_loop (fun v7 => ([(11, .sv (.int .i64 v7.1))], [(208, some (.row cPacket v7.2))])) (fun v10 => ([(1, .any), (2, .any), (9, .any), (11, .any)], [(208, some (.row cPacket v10))])) hl ?_ ?_ ?_
  ·
   try dsimp only
   apply w_conv hC []
   ·
    exact co
   ·
    rfl
   ·
    decide
   ·
    rfl
  ·
   intro v7 s hs
   have h := hs
   unfold impl_PacketsOf_l2 at h
   refine s_in ?_
   refine s_reg ?_
   iterate 4 refine v_op hT hC rfl rfl rfl rfl trivial ?_
   refine Vc.nil ?_
   rcases sel_some h with ⟨hb8, h⟩ | ⟨hb8, h⟩
   ·
    refine s_true rfl hb8 ?_
    refine aw_skip ?_
    refine t_norm ?_
    refine s_in ?_
    refine s_block ?_
    refine s_reg ?_
    iterate 7 refine v_op hT hC rfl rfl rfl rfl trivial ?_
    refine Vc.nil ?_
    refine aw_draw hm ?_
    iterate 4 refine v_op hT hC rfl rfl rfl rfl trivial ?_
    obtain ⟨q11, hq, h⟩ := bnd_some h
    refine v_call hC [] rfl rfl rfl rfl Tryz.call12 (impl_SeqPlus_ac hq) rfl (by decide) trivial rfl (.inl rfl) rfl ?_
    iterate 9 refine v_op hT hC rfl rfl rfl rfl trivial ?_
    obtain ⟨hq, h⟩ := req_some h
    refine v_op hT hC rfl rfl rfl rfl hq ?_
    iterate 2 refine v_op hT hC rfl rfl rfl rfl trivial ?_
    obtain ⟨hq, h⟩ := req_some h
    refine v_op hT hC rfl rfl rfl rfl ⟨fun _ _ => rfl, by rw [cPacket_id]; exact hq⟩ ?_
    rw [cPacket_id]
    refine v_op hT hC rfl rfl rfl rfl trivial ?_
    refine Vc.nil ⟨by kernel_rfl, ?_⟩
    refine b_norm ?_
    refine t_norm ?_
    refine aw_region ?_
    iterate 4 refine v_op hT hC rfl rfl rfl rfl trivial ?_
    refine Vc.nil ?_
    injection h with h
    subst h
    refine r_go ?_
    try dsimp only
    apply w_conv hC [(208, 1216)]
    ·
     exact co
    ·
     rfl
    ·
     decide
    ·
     rfl
   ·
    refine s_false rfl hb8 ?_
    refine aw_exit ?_
    refine t_exit ?_
    injection h with h
    subst h
    refine r_exit ?_
    refine o_out ?_
    apply w_conv hC []
    ·
     exact co
    ·
     rfl
    ·
     decide
    ·
     rfl
  refine t_norm ?_
  refine s_reg ?_
  iterate 3 refine v_op hT hC rfl rfl rfl rfl trivial ?_
  refine Vc.nil ?_
  refine aw_ret ?_
  injection h with h
  subst h
  refine ends (τ := ⟨[(6, .own 16), (7, .sv (.bool true))], [(16, some (.row cPacket v10))]⟩) ?_ rfl ⟨rfl, trivial⟩
  apply w_conv hC [(16, 208)]
  ·
   exact co
  ·
   rfl
  ·
   decide
  ·
   rfl
def impl_PacketText_res (r : (ByteArray × Bool)) : AV := .tup [.sv (.str r.1), .sv (.bool r.2)]
def impl_PacketText_obs (r : (ByteArray × Bool)) : Objs := []
theorem impl_PacketText_ac {p0 : Packet} {r : (ByteArray × Bool)} (h : impl_PacketText p0 = some r) : AC Tryz.prog 16 [.agg [.sv (.int .i64 p0.Seq), .sv (.bool p0.First), .sv (.bool p0.Last), .sv (.str p0.Bytes)]] [] (impl_PacketText_res r) (impl_PacketText_obs r) := by
 refine ac_of_body hT Tryz.func16 rfl fun C hC => ?_
 unfold impl_PacketText at h
 refine s_reg ?_
 iterate 3 refine v_op hT hC rfl rfl rfl rfl trivial ?_
 refine Vc.nil ?_
 refine s_in ?_
 refine s_reg ?_
 refine v_op hT hC rfl rfl rfl rfl trivial ?_
 obtain ⟨q1, hq, h⟩ := bnd_some h
 refine v_call hC [] rfl rfl rfl rfl Tryz.call24 (impl_PacketOk_ac hq) rfl (by decide) trivial rfl (.inl rfl) rfl ?_
 refine v_op hT hC rfl rfl rfl rfl trivial ?_
 refine Vc.nil ?_
 rcases sel_some h with ⟨hb1, h⟩ | ⟨hb1, h⟩
 ·
  refine s_true rfl hb1 ?_
  refine s_reg ?_
  iterate 2 refine v_op hT hC rfl rfl rfl rfl trivial ?_
  refine Vc.nil ?_
  refine aw_ret ?_
  refine t_ret ?_
  injection h with h
  subst h
  exact ends (Weak.refl _) rfl trivial
 ·
  refine s_false rfl hb1 ?_
  refine aw_skip ?_
  refine t_norm ?_
  refine s_reg ?_
  refine v_op hT hC rfl rfl rfl rfl trivial ?_
  refine Vc.nil ?_
  refine live [1, 4] [16] (s' := [_, _]) (o' := [_]) rfl rfl ?_
  obtain ⟨v2, h1, h⟩ := bnd_some h
  refine aw_to ([(4, .sv (.int .u8 v2))], []) ?_ ?_
  ·
   have h := h1
   refine s_reg ?_
   iterate 2 refine v_op hT hC rfl rfl rfl rfl trivial ?_
   refine Vc.nil ?_
   rcases sel_some h with ⟨hb2, h⟩ | ⟨hb2, h⟩
   ·
    refine s_true rfl hb2 ?_
    refine aw_region ?_
    iterate 3 refine v_op hT hC rfl rfl rfl rfl trivial ?_
    refine Vc.nil ?_
    injection h with h
    subst h
    refine m_norm ?_
    apply w_conv hC []
    ·
     exact co
    ·
     rfl
    ·
     decide
    ·
     rfl
   ·
    refine s_false rfl hb2 ?_
    refine aw_skip ?_
    injection h with h
    subst h
    refine m_norm ?_
    apply w_conv hC []
    ·
     exact co
    ·
     rfl
    ·
     decide
    ·
     rfl
  refine live [1, 4] [16] (s' := [_, _]) (o' := [_]) rfl rfl ?_
  obtain ⟨v3, h1, h⟩ := bnd_some h
  refine aw_to ([(4, .sv (.int .u8 v3))], []) ?_ ?_
  ·
   have h := h1
   refine s_reg ?_
   iterate 2 refine v_op hT hC rfl rfl rfl rfl trivial ?_
   refine Vc.nil ?_
   rcases sel_some h with ⟨hb3, h⟩ | ⟨hb3, h⟩
   ·
    refine s_true rfl hb3 ?_
    refine aw_region ?_
    iterate 3 refine v_op hT hC rfl rfl rfl rfl trivial ?_
    refine Vc.nil ?_
    injection h with h
    subst h
    refine m_norm ?_
    apply w_conv hC []
    ·
     exact co
    ·
     rfl
    ·
     decide
    ·
     rfl
   ·
    refine s_false rfl hb3 ?_
    refine aw_skip ?_
    injection h with h
    subst h
    refine m_norm ?_
    apply w_conv hC []
    ·
     exact co
    ·
     rfl
    ·
     decide
    ·
     rfl
  refine s_reg ?_
  iterate 2 refine v_op hT hC rfl rfl rfl rfl trivial ?_
  obtain ⟨hq, h⟩ := req_some h
  refine v_op hT hC rfl rfl rfl rfl hq ?_
  iterate 9 refine v_op hT hC rfl rfl rfl rfl trivial ?_
  obtain ⟨hq, h⟩ := req_some h
  refine v_op hT hC rfl rfl rfl rfl hq ?_
  iterate 2 refine v_op hT hC rfl rfl rfl rfl trivial ?_
  refine Vc.nil ?_
  refine aw_ret ?_
  injection h with h
  subst h
  exact ends (Weak.refl _) rfl trivial
def impl_ReadPacket_res (r : (Packet × Bool)) : AV := .tup [.agg [.sv (.int .i64 r.1.Seq), .sv (.bool r.1.First), .sv (.bool r.1.Last), .sv (.str r.1.Bytes)], .sv (.bool r.2)]
def impl_ReadPacket_obs (r : (Packet × Bool)) : Objs := []
theorem impl_ReadPacket_ac {p0 : ByteArray} {r : (Packet × Bool)} (h : impl_ReadPacket p0 = some r) : AC Tryz.prog 17 [.sv (.str p0)] [] (impl_ReadPacket_res r) (impl_ReadPacket_obs r) := by
 refine ac_of_body hT Tryz.func17 rfl fun C hC => ?_
 unfold impl_ReadPacket at h
 refine s_reg ?_
 iterate 2 refine v_op hT hC rfl rfl rfl rfl trivial ?_
 refine Vc.nil ?_
 refine s_in ?_
 refine live [0, 2] [32] (s' := [_, _]) (o' := [_]) rfl rfl ?_
 obtain ⟨v1, h1, h⟩ := bnd_some h
 refine aw_to ([(12, .sv (.bool v1))], []) ?_ ?_
 ·
  have h := h1
  refine aw_region ?_
  iterate 4 refine v_op hT hC rfl rfl rfl rfl trivial ?_
  rcases sel_some h with ⟨hb1, h⟩ | ⟨hb1, h⟩
  ·
   refine v_off hC rfl rfl rfl rfl hb1 rfl rfl ?_
   refine v_off hC rfl rfl rfl rfl hb1 rfl rfl ?_
   refine v_off hC rfl rfl rfl rfl hb1 rfl rfl ?_
   refine v_pick hC rfl rfl rfl (b := true) hb1 rfl rfl rfl trivial ?_
   refine Vc.nil ?_
   injection h with h
   subst h
   refine m_norm ?_
   apply w_conv hC []
   ·
    exact co
   ·
    rfl
   ·
    decide
   ·
    rfl
  ·
   refine v_on hT hC rfl rfl rfl rfl hb1 rfl rfl rfl trivial ?_
   obtain ⟨hq, h⟩ := req_some h
   refine v_on hT hC rfl rfl rfl rfl hb1 rfl rfl rfl hq ?_
   refine v_on hT hC rfl rfl rfl rfl hb1 rfl rfl rfl trivial ?_
   refine v_pick hC rfl rfl rfl (b := false) hb1 rfl rfl rfl trivial ?_
   refine Vc.nil ?_
   injection h with h
   subst h
   refine m_norm ?_
   apply w_conv hC []
   ·
    exact co
   ·
    rfl
   ·
    decide
   ·
    rfl
 rcases sel_some h with ⟨hb2, h⟩ | ⟨hb2, h⟩
 ·
  refine s_true rfl hb2 ?_
  refine s_reg ?_
  iterate 3 refine v_op hT hC rfl rfl rfl rfl trivial ?_
  refine Vc.nil ?_
  refine aw_ret ?_
  refine t_ret ?_
  injection h with h
  subst h
  exact ends (Weak.refl _) rfl trivial
 ·
  refine s_false rfl hb2 ?_
  refine aw_skip ?_
  refine t_norm ?_
  refine s_draw hm ?_
  refine v_op hT hC rfl rfl rfl rfl trivial ?_
  obtain ⟨hq, h⟩ := req_some h
  refine v_op hT hC rfl rfl rfl rfl hq ?_
  refine v_op hT hC rfl rfl rfl rfl trivial ?_
  obtain ⟨hq, h⟩ := req_some h
  refine v_op hT hC rfl rfl rfl rfl hq ?_
  refine v_op hT hC rfl rfl rfl rfl trivial ?_
  obtain ⟨hq, h⟩ := req_some h
  refine v_op hT hC rfl rfl rfl rfl hq ?_
  iterate 3 refine v_op hT hC rfl rfl rfl rfl trivial ?_
  obtain ⟨hq, h⟩ := req_some h
  refine v_op hT hC rfl rfl rfl rfl hq ?_
  iterate 3 refine v_op hT hC rfl rfl rfl rfl trivial ?_
  obtain ⟨hq, h⟩ := req_some h
  refine v_op hT hC rfl rfl rfl rfl hq ?_
  iterate 3 refine v_op hT hC rfl rfl rfl rfl trivial ?_
  obtain ⟨hq, h⟩ := req_some h
  refine v_op hT hC rfl rfl rfl rfl hq ?_
  iterate 3 refine v_op hT hC rfl rfl rfl rfl trivial ?_
  refine Vc.nil ⟨by kernel_rfl, ?_⟩
  refine s_in ?_
  refine s_reg ?_
  refine v_op hT hC rfl rfl rfl rfl trivial ?_
  obtain ⟨q2, hq, h⟩ := bnd_some h
  refine v_call hC [] rfl rfl rfl rfl Tryz.call24 (impl_PacketOk_ac hq) rfl (by decide) trivial rfl (.inl rfl) rfl ?_
  refine v_op hT hC rfl rfl rfl rfl trivial ?_
  refine Vc.nil ?_
  rcases sel_some h with ⟨hb3, h⟩ | ⟨hb3, h⟩
  ·
   refine s_true rfl hb3 ?_
   refine s_reg ?_
   iterate 3 refine v_op hT hC rfl rfl rfl rfl trivial ?_
   refine Vc.nil ?_
   refine aw_ret ?_
   refine t_ret ?_
   injection h with h
   subst h
   exact ends (Weak.refl _) rfl trivial
  ·
   refine s_false rfl hb3 ?_
   refine aw_skip ?_
   refine t_norm ?_
   refine s_reg ?_
   iterate 3 refine v_op hT hC rfl rfl rfl rfl trivial ?_
   refine Vc.nil ?_
   refine aw_ret ?_
   injection h with h
   subst h
   exact ends (Weak.refl _) rfl trivial
def laws_FnPackets_res (r : Bool) : AV := .sv (.bool r)
def laws_FnPackets_obs (r : Bool) : Objs := []
theorem laws_FnPackets_ac {p0 : (List Int)} {r : Bool} (h : laws_FnPackets p0 = some r) : AC Tryz.prog 4 [.sv (.ints .u8 p0)] [] (laws_FnPackets_res r) (laws_FnPackets_obs r) := by
 refine ac_of_body hT Tryz.func4 rfl fun C hC => ?_
 unfold laws_FnPackets at h
 refine s_reg ?_
 refine v_op hT hC rfl rfl rfl rfl trivial ?_
 refine Vc.nil ?_
 refine s_in ?_
 refine s_reg ?_
 refine v_op hT hC rfl rfl rfl rfl trivial ?_
 obtain ⟨q1, hq, h⟩ := bnd_some h
 refine v_call hC [] rfl rfl rfl rfl Tryz.call5 (laws_big_ac hq) rfl (by decide) trivial rfl (.inl rfl) rfl ?_
 refine Vc.nil ?_
 rcases sel_some h with ⟨hb1, h⟩ | ⟨hb1, h⟩
 ·
  refine s_true rfl hb1 ?_
  refine s_reg ?_
  refine v_op hT hC rfl rfl rfl rfl trivial ?_
  refine Vc.nil ?_
  refine aw_ret ?_
  refine t_ret ?_
  injection h with h
  subst h
  exact ends (Weak.refl _) rfl trivial
 ·
  refine s_false rfl hb1 ?_
  refine aw_skip ?_
  refine t_norm ?_
  refine s_reg ?_
  refine v_op hT hC rfl rfl rfl rfl trivial ?_
  obtain ⟨q2, hq, h⟩ := bnd_some h
  refine v_call hC [(16, 288)] rfl rfl rfl rfl Tryz.call6 (spec_DrawPicture_ac hq) rfl (by decide) trivial rfl (.inl rfl) rfl ?_
  refine v_op hT hC rfl rfl rfl rfl trivial ?_
  refine Vc.nil ?_
  refine s_in ?_
  refine s_reg ?_
  iterate 3 refine v_op hT hC rfl rfl rfl rfl trivial ?_
  refine Vc.nil ?_
  rcases sel_some h with ⟨hb2, h⟩ | ⟨hb2, h⟩
  ·
   refine s_true rfl hb2 ?_
   refine s_reg ?_
   refine v_op hT hC rfl rfl rfl rfl trivial ?_
   refine Vc.nil ?_
   refine aw_ret ?_
   refine t_ret ?_
   injection h with h
   subst h
   exact ends (Weak.refl _) rfl trivial
  ·
   refine s_false rfl hb2 ?_
   refine aw_skip ?_
   refine t_norm ?_
   refine s_reg ?_
   iterate 2 refine v_op hT hC rfl rfl rfl rfl trivial ?_
   obtain ⟨hq, h⟩ := req_some h
   refine v_op hT hC rfl rfl rfl rfl ⟨fun _ _ => rfl, by rw [cPacket_id]; exact hq⟩ ?_
   rw [cPacket_id]
   obtain ⟨q3, hq, h⟩ := bnd_some h
   refine v_call hC [(16, 416)] rfl rfl rfl rfl Tryz.call14 (impl_PictureOf_ac hq) rfl (by decide) trivial rfl (.inr ⟨rfl, ⟨fun _ => rfl, trivial⟩⟩) rfl ?_
   iterate 5 refine v_op hT hC rfl rfl rfl rfl trivial ?_
   refine Vc.nil ?_
   refine s_draw hm ?_
   iterate 2 refine v_op hT hC rfl rfl rfl rfl trivial ?_
   obtain ⟨hq, h⟩ := req_some h
   refine v_op hT hC rfl rfl rfl rfl ⟨fun _ _ => rfl, by rw [cByteArray_id]; exact hq⟩ ?_
   rw [cByteArray_id]
   refine v_op hT hC rfl rfl rfl rfl trivial ?_
   obtain ⟨hq, h⟩ := req_some h
   refine v_op hT hC rfl rfl rfl rfl hq ?_
   refine v_op hT hC rfl rfl rfl rfl trivial ?_
   obtain ⟨hq, h⟩ := req_some h
   refine v_op hT hC rfl rfl rfl rfl hq ?_
   refine v_op hT hC rfl rfl rfl rfl trivial ?_
   obtain ⟨hq, h⟩ := req_some h
   refine v_op hT hC rfl rfl rfl rfl hq ?_
   refine v_op hT hC rfl rfl rfl rfl trivial ?_
   obtain ⟨hq, h⟩ := req_some h
   refine v_op hT hC rfl rfl rfl rfl hq ?_
   refine v_op hT hC rfl rfl rfl rfl trivial ?_
   obtain ⟨q4, hq, h⟩ := bnd_some h
   refine v_call hC [(16, 672)] rfl rfl rfl rfl Tryz.call15 (impl_PacketsOf_ac hq) rfl (by decide) trivial rfl (.inr ⟨rfl, ⟨fun _ => rfl, trivial⟩⟩) rfl ?_
   iterate 5 refine v_op hT hC rfl rfl rfl rfl trivial ?_
   refine Vc.nil ⟨by kernel_rfl, ?_⟩
   refine s_in ?_
   refine live [3, 5, 6, 7] [288, 672] (s' := [_, _, _, _]) (o' := [_, _]) rfl rfl ?_
   obtain ⟨v5, h1, h⟩ := bnd_some h
   refine aw_to ([(56, .sv (.bool v5)), (5, .any), (6, .any), (7, .any)], [(672, none)]) ?_ ?_
   ·
    have h := h1
    refine aw_region ?_
    iterate 3 refine v_op hT hC rfl rfl rfl rfl trivial ?_
    rcases sel_some h with ⟨hb3, h⟩ | ⟨hb3, h⟩
    ·
     iterate 2 refine v_on hT hC rfl rfl rfl rfl (congrArg Bool.not hb3) rfl rfl rfl trivial ?_
     refine v_pick hC rfl rfl rfl (b := false) (congrArg Bool.not hb3) rfl rfl rfl trivial ?_
     refine v_op hT hC rfl rfl rfl rfl trivial ?_
     rcases sel_some h with ⟨hb4, h⟩ | ⟨hb4, h⟩
     ·
      iterate 2 refine v_on hT hC rfl rfl rfl rfl (congrArg Bool.not hb4) rfl rfl rfl trivial ?_
      obtain ⟨q6, hq, h⟩ := bnd_some h
      refine v_call_on hC [] rfl rfl rfl rfl (congrArg Bool.not hb4) rfl rfl rfl Tryz.call11 (laws_samePackets_ac hq) rfl (by decide) trivial rfl (.inr ⟨rfl, trivial⟩) rfl ?_
      refine v_on hT hC rfl rfl rfl rfl (congrArg Bool.not hb4) rfl rfl rfl trivial ?_
      refine v_pick hC rfl rfl rfl (b := false) (congrArg Bool.not hb4) rfl rfl rfl trivial ?_
      refine Vc.nil ?_
      injection h with h
      subst h
      refine m_norm ?_
      apply w_conv hC []
      ·
       exact co
      ·
       rfl
      ·
       decide
      ·
       rfl
     ·
      refine v_off hC rfl rfl rfl rfl (congrArg Bool.not hb4) rfl rfl ?_
      refine v_off hC rfl rfl rfl rfl (congrArg Bool.not hb4) rfl rfl ?_
      refine v_off hC rfl rfl rfl rfl (congrArg Bool.not hb4) rfl rfl ?_
      refine v_off hC rfl rfl rfl rfl (congrArg Bool.not hb4) rfl rfl ?_
      refine v_pick hC rfl rfl rfl (b := true) (congrArg Bool.not hb4) rfl rfl rfl trivial ?_
      refine Vc.nil ?_
      injection h with h
      subst h
      refine m_norm ?_
      apply w_conv hC []
      ·
       exact co
      ·
       rfl
      ·
       decide
      ·
       rfl
    ·
     refine v_off hC rfl rfl rfl rfl (congrArg Bool.not hb3) rfl rfl ?_
     refine v_off hC rfl rfl rfl rfl (congrArg Bool.not hb3) rfl rfl ?_
     refine v_pick hC rfl rfl rfl (b := true) (congrArg Bool.not hb3) rfl rfl rfl trivial ?_
     refine v_op hT hC rfl rfl rfl rfl trivial ?_
     refine v_off hC rfl rfl rfl rfl rfl rfl rfl ?_
     refine v_off hC rfl rfl rfl rfl rfl rfl rfl ?_
     refine v_off hC rfl rfl rfl rfl rfl rfl rfl ?_
     refine v_off hC rfl rfl rfl rfl rfl rfl rfl ?_
     refine v_op hT hC rfl rfl rfl rfl trivial ?_
     refine Vc.nil ?_
     injection h with h
     subst h
     refine m_norm ?_
     apply w_conv hC []
     ·
      exact co
     ·
      rfl
     ·
      decide
     ·
      rfl
   rcases sel_some h with ⟨hb5, h⟩ | ⟨hb5, h⟩
   ·
    refine s_true rfl hb5 ?_
    refine s_reg ?_
    refine v_op hT hC rfl rfl rfl rfl trivial ?_
    refine Vc.nil ?_
    refine aw_ret ?_
    refine t_ret ?_
    injection h with h
    subst h
    exact ends (Weak.refl _) rfl trivial
   ·
    refine s_false rfl hb5 ?_
    refine aw_skip ?_
    refine t_norm ?_
    refine s_in ?_
    refine s_reg ?_
    refine v_op hT hC rfl rfl rfl rfl trivial ?_
    refine Vc.nil ?_
    refine live [3, 8] [288] (s' := [_, _]) (o' := [_]) rfl rfl ?_
    obtain ⟨o26, hl, h⟩ := bnd_some h
    refine s_loopR (fun v13 => ([(8, .sv (.int .i64 v13))], [])) (fun v20 => ([(8, .any)], [])) (fun r => EndsA C T Tryz.f4.results.toList (laws_FnPackets_res r) (laws_FnPackets_obs r)) hl ?_ ?_ ?_ ?_
    ·
     apply w_conv hC []
     ·
      exact co
     ·
      rfl
     ·
      decide
     ·
      rfl
    ·
     intro v13 s hs
     have h := hs
     unfold laws_FnPackets_l2 at h
     refine s_in ?_
     refine s_reg ?_
     iterate 4 refine v_op hT hC rfl rfl rfl rfl trivial ?_
     refine Vc.nil ?_
     rcases sel_some h with ⟨hb18, h⟩ | ⟨hb18, h⟩
     ·
      refine s_true rfl hb18 ?_
      refine aw_skip ?_
      refine t_norm ?_
      refine s_in ?_
      refine s_block ?_
      refine s_reg ?_
      iterate 2 refine v_op hT hC rfl rfl rfl rfl trivial ?_
      obtain ⟨hq, h⟩ := req_some h
      refine v_op hT hC rfl rfl rfl rfl hq ?_
      obtain ⟨hq, h⟩ := req_some h
      refine v_op hT hC rfl rfl rfl rfl hq ?_
      obtain ⟨q21, hq, h⟩ := bnd_some h
      refine v_call hC [] rfl rfl rfl rfl Tryz.call16 (impl_PacketText_ac hq) rfl (by decide) trivial rfl (.inl rfl) rfl ?_
      iterate 5 refine v_op hT hC rfl rfl rfl rfl trivial ?_
      refine Vc.nil ?_
      refine s_reg ?_
      refine v_op hT hC rfl rfl rfl rfl trivial ?_
      obtain ⟨q22, hq, h⟩ := bnd_some h
      refine v_call hC [] rfl rfl rfl rfl Tryz.call17 (impl_ReadPacket_ac hq) rfl (by decide) trivial rfl (.inl rfl) rfl ?_
      iterate 6 refine v_op hT hC rfl rfl rfl rfl trivial ?_
      refine Vc.nil ?_
      refine live [3, 8, 10, 11, 12] [176, 288] (s' := [_, _, _, _, _]) (o' := [_, _]) rfl rfl ?_
      obtain ⟨v23, h1, h⟩ := bnd_some h
      refine aw_to ([(117, .sv (.bool v23)), (10, .any), (11, .any), (12, .any)], [(176, none)]) ?_ ?_
      ·
       have h := h1
       refine aw_draw hm ?_
       iterate 3 refine v_op hT hC rfl rfl rfl rfl trivial ?_
       rcases sel_some h with ⟨hb19, h⟩ | ⟨hb19, h⟩
       ·
        iterate 2 refine v_on hT hC rfl rfl rfl rfl (congrArg Bool.not hb19) rfl rfl rfl trivial ?_
        refine v_pick hC rfl rfl rfl (b := false) (congrArg Bool.not hb19) rfl rfl rfl trivial ?_
        refine v_op hT hC rfl rfl rfl rfl trivial ?_
        rcases sel_some h with ⟨hb20, h⟩ | ⟨hb20, h⟩
        ·
         iterate 3 refine v_on hT hC rfl rfl rfl rfl (congrArg Bool.not hb20) rfl rfl rfl trivial ?_
         obtain ⟨hq, h⟩ := req_some h
         refine v_on hT hC rfl rfl rfl rfl (congrArg Bool.not hb20) rfl rfl rfl hq ?_
         obtain ⟨hq, h⟩ := req_some h
         refine v_on hT hC rfl rfl rfl rfl (congrArg Bool.not hb20) rfl rfl rfl hq ?_
         refine v_eq_on hC rfl rfl rfl rfl (congrArg Bool.not hb20) rfl rfl rfl eq_t33 rfl rfl ?_
         refine v_pick hC rfl rfl rfl (b := false) (congrArg Bool.not hb20) rfl rfl rfl trivial ?_
         refine v_op hT hC rfl rfl rfl rfl trivial ?_
         rcases sel_some h with ⟨hb21, h⟩ | ⟨hb21, h⟩
         ·
          refine v_off hC rfl rfl rfl rfl hb21 rfl rfl ?_
          refine v_off hC rfl rfl rfl rfl hb21 rfl rfl ?_
          refine v_off hC rfl rfl rfl rfl hb21 rfl rfl ?_
          refine v_off hC rfl rfl rfl rfl hb21 rfl rfl ?_
          refine v_off hC rfl rfl rfl rfl hb21 rfl rfl ?_
          refine v_off hC rfl rfl rfl rfl hb21 rfl rfl ?_
          refine v_off hC rfl rfl rfl rfl hb21 rfl rfl ?_
          refine v_off hC rfl rfl rfl rfl hb21 rfl rfl ?_
          refine v_off hC rfl rfl rfl rfl hb21 rfl rfl ?_
          refine v_off hC rfl rfl rfl rfl hb21 rfl rfl ?_
          refine v_off hC rfl rfl rfl rfl hb21 rfl rfl ?_
          refine v_off hC rfl rfl rfl rfl hb21 rfl rfl ?_
          refine v_pick hC rfl rfl rfl (b := true) hb21 rfl rfl rfl trivial ?_
          refine v_op hT hC rfl rfl rfl rfl trivial ?_
          refine v_off hC rfl rfl rfl rfl rfl rfl rfl ?_
          refine v_off hC rfl rfl rfl rfl rfl rfl rfl ?_
          refine v_off hC rfl rfl rfl rfl rfl rfl rfl ?_
          refine v_off hC rfl rfl rfl rfl rfl rfl rfl ?_
          refine v_off hC rfl rfl rfl rfl rfl rfl rfl ?_
          refine v_off hC rfl rfl rfl rfl rfl rfl rfl ?_
          refine v_off hC rfl rfl rfl rfl rfl rfl rfl ?_
          refine v_off hC rfl rfl rfl rfl rfl rfl rfl ?_
          refine v_off hC rfl rfl rfl rfl rfl rfl rfl ?_
          refine v_off hC rfl rfl rfl rfl rfl rfl rfl ?_
          refine v_off hC rfl rfl rfl rfl rfl rfl rfl ?_
          refine v_off hC rfl rfl rfl rfl rfl rfl rfl ?_
          refine v_op hT hC rfl rfl rfl rfl trivial ?_
          refine Vc.nil ⟨by kernel_rfl, ?_⟩
          injection h with h
          subst h
          refine m_norm ?_
          apply w_conv hC []
          ·
           exact co
          ·
           rfl
          ·
           decide
          ·
           rfl
         ·
          iterate 2 refine v_on hT hC rfl rfl rfl rfl hb21 rfl rfl rfl trivial ?_
          obtain ⟨hq, h⟩ := req_some h
          refine v_on hT hC rfl rfl rfl rfl hb21 rfl rfl rfl hq ?_
          refine v_on hT hC rfl rfl rfl rfl hb21 rfl rfl rfl trivial ?_
          obtain ⟨hq, h⟩ := req_some h
          refine v_on hT hC rfl rfl rfl rfl hb21 rfl rfl rfl hq ?_
          refine v_on hT hC rfl rfl rfl rfl hb21 rfl rfl rfl trivial ?_
          obtain ⟨hq, h⟩ := req_some h
          refine v_on hT hC rfl rfl rfl rfl hb21 rfl rfl rfl hq ?_
          refine v_on hT hC rfl rfl rfl rfl hb21 rfl rfl rfl trivial ?_
          obtain ⟨hq, h⟩ := req_some h
          refine v_on hT hC rfl rfl rfl rfl hb21 rfl rfl rfl hq ?_
          refine v_on hT hC rfl rfl rfl rfl hb21 rfl rfl rfl trivial ?_
          obtain ⟨q24, hq, h⟩ := bnd_some h
          refine v_call_on hC [] rfl rfl rfl rfl hb21 rfl rfl rfl Tryz.call12 (impl_SeqPlus_ac hq) rfl (by decide) trivial rfl (.inl rfl) rfl ?_
          refine v_on hT hC rfl rfl rfl rfl hb21 rfl rfl rfl trivial ?_
          refine v_pick hC rfl rfl rfl (b := false) hb21 rfl rfl rfl trivial ?_
          refine v_op hT hC rfl rfl rfl rfl trivial ?_
          rcases sel_some h with ⟨hb22, h⟩ | ⟨hb22, h⟩
          ·
           refine v_off hC rfl rfl rfl rfl hb22 rfl rfl ?_
           refine v_off hC rfl rfl rfl rfl hb22 rfl rfl ?_
           refine v_off hC rfl rfl rfl rfl hb22 rfl rfl ?_
           refine v_off hC rfl rfl rfl rfl hb22 rfl rfl ?_
           refine v_off hC rfl rfl rfl rfl hb22 rfl rfl ?_
           refine v_off hC rfl rfl rfl rfl hb22 rfl rfl ?_
           refine v_off hC rfl rfl rfl rfl hb22 rfl rfl ?_
           refine v_off hC rfl rfl rfl rfl hb22 rfl rfl ?_
           refine v_off hC rfl rfl rfl rfl hb22 rfl rfl ?_
           refine v_off hC rfl rfl rfl rfl hb22 rfl rfl ?_
           refine v_off hC rfl rfl rfl rfl hb22 rfl rfl ?_
           refine v_off hC rfl rfl rfl rfl hb22 rfl rfl ?_
           refine v_pick hC rfl rfl rfl (b := true) hb22 rfl rfl rfl trivial ?_
           refine Vc.nil ⟨by kernel_rfl, ?_⟩
           injection h with h
           subst h
           refine m_norm ?_
           apply w_conv hC []
           ·
            exact co
           ·
            rfl
           ·
            decide
           ·
            rfl
          ·
           refine v_on hT hC rfl rfl rfl rfl hb22 rfl rfl rfl trivial ?_
           obtain ⟨hq, h⟩ := req_some h
           refine v_on hT hC rfl rfl rfl rfl hb22 rfl rfl rfl hq ?_
           refine v_on hT hC rfl rfl rfl rfl hb22 rfl rfl rfl trivial ?_
           obtain ⟨hq, h⟩ := req_some h
           refine v_on hT hC rfl rfl rfl rfl hb22 rfl rfl rfl hq ?_
           iterate 2 refine v_on hT hC rfl rfl rfl rfl hb22 rfl rfl rfl trivial ?_
           obtain ⟨hq, h⟩ := req_some h
           refine v_on hT hC rfl rfl rfl rfl hb22 rfl rfl rfl hq ?_
           refine v_on hT hC rfl rfl rfl rfl hb22 rfl rfl rfl trivial ?_
           obtain ⟨hq, h⟩ := req_some h
           refine v_on hT hC rfl rfl rfl rfl hb22 rfl rfl rfl hq ?_
           obtain ⟨q25, hq, h⟩ := bnd_some h
           refine v_call_on hC [] rfl rfl rfl rfl hb22 rfl rfl rfl Tryz.call18 (impl_SeqGap_ac hq) rfl (by decide) trivial rfl (.inl rfl) rfl ?_
           iterate 2 refine v_on hT hC rfl rfl rfl rfl hb22 rfl rfl rfl trivial ?_
           refine v_pick hC rfl rfl rfl (b := false) hb22 rfl rfl rfl trivial ?_
           refine Vc.nil ⟨by kernel_rfl, ?_⟩
           injection h with h
           subst h
           refine m_norm ?_
           apply w_conv hC []
           ·
            exact co
           ·
            rfl
           ·
            decide
           ·
            rfl
        ·
         refine v_off hC rfl rfl rfl rfl (congrArg Bool.not hb20) rfl rfl ?_
         refine v_off hC rfl rfl rfl rfl (congrArg Bool.not hb20) rfl rfl ?_
         refine v_off hC rfl rfl rfl rfl (congrArg Bool.not hb20) rfl rfl ?_
         refine v_off hC rfl rfl rfl rfl (congrArg Bool.not hb20) rfl rfl ?_
         refine v_off hC rfl rfl rfl rfl (congrArg Bool.not hb20) rfl rfl ?_
         refine v_off hC rfl rfl rfl rfl (congrArg Bool.not hb20) rfl rfl ?_
         refine v_pick hC rfl rfl rfl (b := true) (congrArg Bool.not hb20) rfl rfl rfl trivial ?_
         refine v_op hT hC rfl rfl rfl rfl trivial ?_
         refine v_off hC rfl rfl rfl rfl rfl rfl rfl ?_
         refine v_off hC rfl rfl rfl rfl rfl rfl rfl ?_
         refine v_off hC rfl rfl rfl rfl rfl rfl rfl ?_
         refine v_off hC rfl rfl rfl rfl rfl rfl rfl ?_
         refine v_off hC rfl rfl rfl rfl rfl rfl rfl ?_
         refine v_off hC rfl rfl rfl rfl rfl rfl rfl ?_
         refine v_off hC rfl rfl rfl rfl rfl rfl rfl ?_
         refine v_off hC rfl rfl rfl rfl rfl rfl rfl ?_
         refine v_off hC rfl rfl rfl rfl rfl rfl rfl ?_
         refine v_off hC rfl rfl rfl rfl rfl rfl rfl ?_
         refine v_off hC rfl rfl rfl rfl rfl rfl rfl ?_
         refine v_off hC rfl rfl rfl rfl rfl rfl rfl ?_
         iterate 2 refine v_op hT hC rfl rfl rfl rfl trivial ?_
         refine v_off hC rfl rfl rfl rfl rfl rfl rfl ?_
         refine v_off hC rfl rfl rfl rfl rfl rfl rfl ?_
         refine v_off hC rfl rfl rfl rfl rfl rfl rfl ?_
         refine v_off hC rfl rfl rfl rfl rfl rfl rfl ?_
         refine v_off hC rfl rfl rfl rfl rfl rfl rfl ?_
         refine v_off hC rfl rfl rfl rfl rfl rfl rfl ?_
         refine v_off hC rfl rfl rfl rfl rfl rfl rfl ?_
         refine v_off hC rfl rfl rfl rfl rfl rfl rfl ?_
         refine v_off hC rfl rfl rfl rfl rfl rfl rfl ?_
         refine v_off hC rfl rfl rfl rfl rfl rfl rfl ?_
         refine v_off hC rfl rfl rfl rfl rfl rfl rfl ?_
         refine v_off hC rfl rfl rfl rfl rfl rfl rfl ?_
         refine v_op hT hC rfl rfl rfl rfl trivial ?_
         refine Vc.nil ⟨by kernel_rfl, ?_⟩
         injection h with h
         subst h
         refine m_norm ?_
         apply w_conv hC []
         ·
          exact co
         ·
          rfl
         ·
          decide
         ·
          rfl
       ·
        refine v_off hC rfl rfl rfl rfl (congrArg Bool.not hb19) rfl rfl ?_
        refine v_off hC rfl rfl rfl rfl (congrArg Bool.not hb19) rfl rfl ?_
        refine v_pick hC rfl rfl rfl (b := true) (congrArg Bool.not hb19) rfl rfl rfl trivial ?_
        refine v_op hT hC rfl rfl rfl rfl trivial ?_
        refine v_off hC rfl rfl rfl rfl rfl rfl rfl ?_
        refine v_off hC rfl rfl rfl rfl rfl rfl rfl ?_
        refine v_off hC rfl rfl rfl rfl rfl rfl rfl ?_
        refine v_off hC rfl rfl rfl rfl rfl rfl rfl ?_
        refine v_off hC rfl rfl rfl rfl rfl rfl rfl ?_
        refine v_off hC rfl rfl rfl rfl rfl rfl rfl ?_
        iterate 2 refine v_op hT hC rfl rfl rfl rfl trivial ?_
        refine v_off hC rfl rfl rfl rfl rfl rfl rfl ?_
        refine v_off hC rfl rfl rfl rfl rfl rfl rfl ?_
        refine v_off hC rfl rfl rfl rfl rfl rfl rfl ?_
        refine v_off hC rfl rfl rfl rfl rfl rfl rfl ?_
        refine v_off hC rfl rfl rfl rfl rfl rfl rfl ?_
        refine v_off hC rfl rfl rfl rfl rfl rfl rfl ?_
        refine v_off hC rfl rfl rfl rfl rfl rfl rfl ?_
        refine v_off hC rfl rfl rfl rfl rfl rfl rfl ?_
        refine v_off hC rfl rfl rfl rfl rfl rfl rfl ?_
        refine v_off hC rfl rfl rfl rfl rfl rfl rfl ?_
        refine v_off hC rfl rfl rfl rfl rfl rfl rfl ?_
        refine v_off hC rfl rfl rfl rfl rfl rfl rfl ?_
        iterate 2 refine v_op hT hC rfl rfl rfl rfl trivial ?_
        refine v_off hC rfl rfl rfl rfl rfl rfl rfl ?_
        refine v_off hC rfl rfl rfl rfl rfl rfl rfl ?_
        refine v_off hC rfl rfl rfl rfl rfl rfl rfl ?_
        refine v_off hC rfl rfl rfl rfl rfl rfl rfl ?_
        refine v_off hC rfl rfl rfl rfl rfl rfl rfl ?_
        refine v_off hC rfl rfl rfl rfl rfl rfl rfl ?_
        refine v_off hC rfl rfl rfl rfl rfl rfl rfl ?_
        refine v_off hC rfl rfl rfl rfl rfl rfl rfl ?_
        refine v_off hC rfl rfl rfl rfl rfl rfl rfl ?_
        refine v_off hC rfl rfl rfl rfl rfl rfl rfl ?_
        refine v_off hC rfl rfl rfl rfl rfl rfl rfl ?_
        refine v_off hC rfl rfl rfl rfl rfl rfl rfl ?_
        refine v_op hT hC rfl rfl rfl rfl trivial ?_
        refine Vc.nil ⟨by kernel_rfl, ?_⟩
        injection h with h
        subst h
        refine m_norm ?_
        apply w_conv hC []
        ·
         exact co
        ·
         rfl
        ·
         decide
        ·
         rfl
      rcases sel_some h with ⟨hb23, h⟩ | ⟨hb23, h⟩
      ·
       refine s_true rfl hb23 ?_
       refine s_reg ?_
       refine v_op hT hC rfl rfl rfl rfl trivial ?_
       refine Vc.nil ?_
       refine aw_ret ?_
       refine b_ret ?_
       refine t_ret ?_
       injection h with h
       subst h
       refine r_ret ?_
       refine o_ret ?_
       exact ends (Weak.refl _) rfl trivial
      ·
       refine s_false rfl hb23 ?_
       refine aw_skip ?_
       refine b_norm ?_
       refine t_norm ?_
       refine aw_region ?_
       iterate 3 refine v_op hT hC rfl rfl rfl rfl trivial ?_
       refine Vc.nil ?_
       injection h with h
       subst h
       refine r_go ?_
       apply w_conv hC []
       ·
        exact co
       ·
        rfl
       ·
        decide
       ·
        rfl
     ·
      refine s_false rfl hb18 ?_
      refine aw_exit ?_
      refine t_exit ?_
      injection h with h
      subst h
      refine r_exit ?_
      refine o_both ?_
      apply w_conv hC []
      ·
       exact co
      ·
       rfl
      ·
       decide
      ·
       rfl
    ·
     intro v20 e
     subst e
     refine t_norm ?_
     refine s_reg ?_
     iterate 2 refine v_op hT hC rfl rfl rfl rfl trivial ?_
     obtain ⟨hq, h⟩ := req_some h
     refine v_op hT hC rfl rfl rfl rfl hq ?_
     obtain ⟨hq, h⟩ := req_some h
     refine v_op hT hC rfl rfl rfl rfl ⟨⟨hq.1, fun _ _ => rfl⟩, by rw [cPacket_id]; exact hq.2⟩ ?_
     rw [cPacket_id]
     obtain ⟨q27, hq, h⟩ := bnd_some h
     refine v_call hC [(16, 1968)] rfl rfl rfl rfl Tryz.call14 (impl_PictureOf_ac hq) rfl (by decide) trivial rfl (.inr ⟨rfl, ⟨fun _ => rfl, trivial⟩⟩) rfl ?_
     iterate 5 refine v_op hT hC rfl rfl rfl rfl trivial ?_
     refine Vc.nil ?_
     refine s_reg ?_
     iterate 3 refine v_op hT hC rfl rfl rfl rfl trivial ?_
     refine Vc.nil ?_
     refine aw_ret ?_
     injection h with h
     subst h
     exact ends (Weak.refl _) rfl trivial
    ·
     intro r' σ' e hE
     subst e
     injection h with h
     subst h
     refine t_ret ?_
     exact hE
end
end Go.Proofs.YtgmcephkajhfjaaGreat.A
