/- Contracts of the functions that a law reaches: each Go function comes to what its Lean function tells. Written by this session's own program. Conditions: as each statement tells. -/
import Derived.Test.YtfbifogoheajmaaQFnExactAdmitFitsx0
import Derived.Test.YtfbifogoheajmaaQFnExactAdmitFitsx2
import Derived.Test.YtfbifogoheajmaaQFnExactAdmitFitsx5
import Derived.Test.YtfbifogoheajmaaQFnExactAdmitFitsx8
namespace Go.Proofs.Ytfbifogoheajmaa.QFnExactAdmitFits
open Go.RowKit Go.Proofs.YtfbifogoheajmaaW.PrintWords Go.Proofs.YtfbifogoheajmaaW.PrintLast Go.Proofs.YtfbifogoheajmaaW.PrintMore
attribute [local go_sem] max2_int min2_int max_two min_two max_three min_three max_four min_four   -- for this text's walks alone
set_option linter.unusedVariables false
set_option linter.unusedSimpArgs false

/-! ### laws_FnExactAdmitFits: function 13 -/
def laws_FnExactAdmitFits.f (k : Nat) (a0_0 : Bool) (a0_1 : Bool) (a0_2 : Int) (a0_3 : Int) (l0_4 : List Int) (l0_5 : List Int) (a0_6 : Int) (a0_7 : Bool) (a0_8 : Bool) (a0_9 : Bool) (a0_10 : Int) (a0_11 : Int) (a0_12 : Int) (a1_0 : Int) (a1_1 : Int) (l1_2 : List Int) (l1_3 : List Int) (a2 : Int) : Option (Bool) := (laws_szAdmit.f a0_0 a0_1 a0_2 a0_3 l0_4 l0_5 a0_6 a0_7 a0_8 a0_9 a0_10 a0_11 a0_12 1048576).bind fun t254 => (if t254 < 0 then (some true) else ((laws_szSeq.f a1_0 a1_1 l1_2 l1_3 t254).bind fun t255 => (if t255 < 0 then (some true) else ((laws_toAdmit.f k a0_0 a0_1 a0_2 a0_3 l0_4 l0_5 a0_6 a0_7 a0_8 a0_9 a0_10 a0_11 a0_12).bind fun bt256 => ((laws_toSeq.f k a1_0 a1_1 l1_2 l1_3).bind fun bt273 => ((spec_AdmitFits.f k bt256.1 bt256.2.1 bt256.2.2.1 bt256.2.2.2.1 bt256.2.2.2.2.1 bt256.2.2.2.2.2.1 bt256.2.2.2.2.2.2.1 bt256.2.2.2.2.2.2.2.1 bt256.2.2.2.2.2.2.2.2.1 bt256.2.2.2.2.2.2.2.2.2.1 bt256.2.2.2.2.2.2.2.2.2.2.1 bt256.2.2.2.2.2.2.2.2.2.2.2.1 bt256.2.2.2.2.2.2.2.2.2.2.2.2 bt273.1 bt273.2.1 bt273.2.2.1 bt273.2.2.2 a2).bind fun t281 => ((laws_toAdmit.f k a0_0 a0_1 a0_2 a0_3 l0_4 l0_5 a0_6 a0_7 a0_8 a0_9 a0_10 a0_11 a0_12).bind fun bt282 => ((laws_toSeq.f k a1_0 a1_1 l1_2 l1_3).bind fun bt300 => ((impl_AdmitFits.f k bt282.1 bt282.2.1 bt282.2.2.1 bt282.2.2.2.1 bt282.2.2.2.2.1 bt282.2.2.2.2.2.1 bt282.2.2.2.2.2.2.1 bt282.2.2.2.2.2.2.2.1 bt282.2.2.2.2.2.2.2.2.1 bt282.2.2.2.2.2.2.2.2.2.1 bt282.2.2.2.2.2.2.2.2.2.2.1 bt282.2.2.2.2.2.2.2.2.2.2.2.1 bt282.2.2.2.2.2.2.2.2.2.2.2.2 bt300.1 bt300.2.1 bt300.2.2.1 bt300.2.2.2 a2).bind fun t309 => (if (t309 != t281) = true then (some false) else ((laws_toAdmit.f k a0_0 a0_1 a0_2 a0_3 l0_4 l0_5 a0_6 a0_7 a0_8 a0_9 a0_10 a0_11 a0_12).bind fun bt310 => ((laws_eqAdmit.f k bt282.1 bt282.2.1 bt282.2.2.1 bt282.2.2.2.1 bt282.2.2.2.2.1 bt282.2.2.2.2.2.1 bt282.2.2.2.2.2.2.1 bt282.2.2.2.2.2.2.2.1 bt282.2.2.2.2.2.2.2.2.1 bt282.2.2.2.2.2.2.2.2.2.1 bt282.2.2.2.2.2.2.2.2.2.2.1 bt282.2.2.2.2.2.2.2.2.2.2.2.1 bt282.2.2.2.2.2.2.2.2.2.2.2.2 bt310.1 bt310.2.1 bt310.2.2.1 bt310.2.2.2.1 bt310.2.2.2.2.1 bt310.2.2.2.2.2.1 bt310.2.2.2.2.2.2.1 bt310.2.2.2.2.2.2.2.1 bt310.2.2.2.2.2.2.2.2.1 bt310.2.2.2.2.2.2.2.2.2.1 bt310.2.2.2.2.2.2.2.2.2.2.1 bt310.2.2.2.2.2.2.2.2.2.2.2.1 bt310.2.2.2.2.2.2.2.2.2.2.2.2).bind fun t327 => (if t327 = true then ((laws_toSeq.f k a1_0 a1_1 l1_2 l1_3).bind fun bt328 => ((laws_eqSeq.f k bt300.1 bt300.2.1 bt300.2.2.1 bt300.2.2.2 bt328.1 bt328.2.1 bt328.2.2.1 bt328.2.2.2).bind fun t336 => (if t336 = true then (some true) else (some false)))) else (some false))))))))))))))
theorem laws_FnExactAdmitFits.mono : ∀ a0 a1 a2 a3 a4 a5 a6 a7 a8 a9 a10 a11 a12 a13 a14 a15 a16 a17 k, LeO (laws_FnExactAdmitFits.f k a0 a1 a2 a3 a4 a5 a6 a7 a8 a9 a10 a11 a12 a13 a14 a15 a16 a17) (laws_FnExactAdmitFits.f (k + 1) a0 a1 a2 a3 a4 a5 a6 a7 a8 a9 a10 a11 a12 a13 a14 a15 a16 a17) := by
  intro a0 a1 a2 a3 a4 a5 a6 a7 a8 a9 a10 a11 a12 a13 a14 a15 a16 a17 k
  unfold laws_FnExactAdmitFits.f
  repeat' first
      | (with_reducible exact impl_AdmitFits.mono _ _ _ _ _ _ _ _ _ _ _ _ _ _ _ _ _ _ _)
      | (with_reducible exact laws_eqAdmit.mono _ _ _ _ _ _ _ _ _ _ _ _ _ _ _ _ _ _ _ _ _ _ _ _ _ _ _)
      | (with_reducible exact laws_eqSeq.mono _ _ _ _ _ _ _ _ _)
      | (with_reducible exact laws_toAdmit.mono _ _ _ _ _ _ _ _ _ _ _ _ _ _)
      | (with_reducible exact laws_toSeq.mono _ _ _ _ _)
      | (with_reducible exact spec_AdmitFits.mono _ _ _ _ _ _ _ _ _ _ _ _ _ _ _ _ _ _ _)
      | (with_reducible exact LeO.refl _)
      | (with_reducible exact LeO.none _)
      | (with_reducible refine LeO.ite ?_ ?_)
      | (with_reducible refine LeO.bind ?_ (fun _ => ?_))
      | exact impl_AdmitFits.mono _ _ _ _ _ _ _ _ _ _ _ _ _ _ _ _ _ _ _
      | exact laws_eqAdmit.mono _ _ _ _ _ _ _ _ _ _ _ _ _ _ _ _ _ _ _ _ _ _ _ _ _ _ _
      | exact laws_eqSeq.mono _ _ _ _ _ _ _ _ _
      | exact laws_toAdmit.mono _ _ _ _ _ _ _ _ _ _ _ _ _ _
      | exact laws_toSeq.mono _ _ _ _ _
      | exact spec_AdmitFits.mono _ _ _ _ _ _ _ _ _ _ _ _ _ _ _ _ _ _ _
      | exact LeO.none _
      | refine LeO.ite ?_ ?_
      | refine LeO.bind ?_ (fun _ => ?_)
set_option maxHeartbeats 8000000 in
set_option maxRecDepth 100000 in
theorem laws_FnExactAdmitFits.calls (k : Nat) (a0_0 : Bool) (a0_1 : Bool) (a0_2 : Int) (a0_3 : Int) (A0_4 : Option Addr) (c0_4 : Nat) (l0_4 : List Int) (A0_5 : Option Addr) (c0_5 : Nat) (l0_5 : List Int) (a0_6 : Int) (a0_7 : Bool) (a0_8 : Bool) (a0_9 : Bool) (a0_10 : Int) (a0_11 : Int) (a0_12 : Int) (a1_0 : Int) (a1_1 : Int) (A1_2 : Option Addr) (c1_2 : Nat) (l1_2 : List Int) (A1_3 : Option Addr) (c1_3 : Nat) (l1_3 : List Int) (a2 : Int) (r : Bool) (w : World) (hr0_4 : Kd.C (Kd.int .i64) w A0_4 l0_4.length l0_4) (hc0_4 : l0_4.length ≤ c0_4) (hr0_5 : Kd.C (Kd.int .i64) w A0_5 l0_5.length l0_5) (hc0_5 : l0_5.length ≤ c0_5) (hr1_2 : Kd.C (Kd.int .i64) w A1_2 l1_2.length l1_2) (hc1_2 : l1_2.length ≤ c1_2) (hr1_3 : Kd.C (Kd.int .i64) w A1_3 l1_3.length l1_3) (hc1_3 : l1_3.length ≤ c1_3) (h : laws_FnExactAdmitFits.f k a0_0 a0_1 a0_2 a0_3 l0_4 l0_5 a0_6 a0_7 a0_8 a0_9 a0_10 a0_11 a0_12 a1_0 a1_1 l1_2 l1_3 a2 = some r) (hr_ : Aside0 (r = true)) :
    Calls Try.prog 13 #[.agg #[.bool a0_0, .bool a0_1, .int .i64 a0_2, .int .i64 a0_3, .slice A0_4 l0_4.length c0_4, .slice A0_5 l0_5.length c0_5, .int .i64 a0_6, .bool a0_7, .bool a0_8, .bool a0_9, .int .i64 a0_10, .int .i64 a0_11, .int .i64 a0_12], .agg #[.int .i64 a1_0, .int .i64 a1_1, .slice A1_2 l1_2.length c1_2, .slice A1_3 l1_3.length c1_3], .int .i64 a2] w fun e w' => e = .returned (.bool r) ∧ Below w.heap.size w w' := by
  have hu66 := Try.underlying66
  have hu64 := Try.underlying64
  have hu70 := Try.underlying70
  have hu24 := Try.underlying24
  have HR0_4 := Aside0.mk hr0_4
  have HC0_4 := Aside0.mk hc0_4
  clear hr0_4 hc0_4
  have HR0_5 := Aside0.mk hr0_5
  have HC0_5 := Aside0.mk hc0_5
  clear hr0_5 hc0_5
  have HR1_2 := Aside0.mk hr1_2
  have HC1_2 := Aside0.mk hc1_2
  clear hr1_2 hc1_2
  have HR1_3 := Aside0.mk hr1_3
  have HC1_3 := Aside0.mk hc1_3
  clear hr1_3 hc1_3
  have HB := Aside0.mk (Below.refl w.heap.size w)
  have H : ((laws_szAdmit.f a0_0 a0_1 a0_2 a0_3 l0_4 l0_5 a0_6 a0_7 a0_8 a0_9 a0_10 a0_11 a0_12 1048576).bind fun t254 => (if t254 < 0 then (some true) else ((laws_szSeq.f a1_0 a1_1 l1_2 l1_3 t254).bind fun t255 => (if t255 < 0 then (some true) else ((laws_toAdmit.f k a0_0 a0_1 a0_2 a0_3 l0_4 l0_5 a0_6 a0_7 a0_8 a0_9 a0_10 a0_11 a0_12).bind fun bt256 => ((laws_toSeq.f k a1_0 a1_1 l1_2 l1_3).bind fun bt273 => ((spec_AdmitFits.f k bt256.1 bt256.2.1 bt256.2.2.1 bt256.2.2.2.1 bt256.2.2.2.2.1 bt256.2.2.2.2.2.1 bt256.2.2.2.2.2.2.1 bt256.2.2.2.2.2.2.2.1 bt256.2.2.2.2.2.2.2.2.1 bt256.2.2.2.2.2.2.2.2.2.1 bt256.2.2.2.2.2.2.2.2.2.2.1 bt256.2.2.2.2.2.2.2.2.2.2.2.1 bt256.2.2.2.2.2.2.2.2.2.2.2.2 bt273.1 bt273.2.1 bt273.2.2.1 bt273.2.2.2 a2).bind fun t281 => ((laws_toAdmit.f k a0_0 a0_1 a0_2 a0_3 l0_4 l0_5 a0_6 a0_7 a0_8 a0_9 a0_10 a0_11 a0_12).bind fun bt282 => ((laws_toSeq.f k a1_0 a1_1 l1_2 l1_3).bind fun bt300 => ((impl_AdmitFits.f k bt282.1 bt282.2.1 bt282.2.2.1 bt282.2.2.2.1 bt282.2.2.2.2.1 bt282.2.2.2.2.2.1 bt282.2.2.2.2.2.2.1 bt282.2.2.2.2.2.2.2.1 bt282.2.2.2.2.2.2.2.2.1 bt282.2.2.2.2.2.2.2.2.2.1 bt282.2.2.2.2.2.2.2.2.2.2.1 bt282.2.2.2.2.2.2.2.2.2.2.2.1 bt282.2.2.2.2.2.2.2.2.2.2.2.2 bt300.1 bt300.2.1 bt300.2.2.1 bt300.2.2.2 a2).bind fun t309 => (if (t309 != t281) = true then (some false) else ((laws_toAdmit.f k a0_0 a0_1 a0_2 a0_3 l0_4 l0_5 a0_6 a0_7 a0_8 a0_9 a0_10 a0_11 a0_12).bind fun bt310 => ((laws_eqAdmit.f k bt282.1 bt282.2.1 bt282.2.2.1 bt282.2.2.2.1 bt282.2.2.2.2.1 bt282.2.2.2.2.2.1 bt282.2.2.2.2.2.2.1 bt282.2.2.2.2.2.2.2.1 bt282.2.2.2.2.2.2.2.2.1 bt282.2.2.2.2.2.2.2.2.2.1 bt282.2.2.2.2.2.2.2.2.2.2.1 bt282.2.2.2.2.2.2.2.2.2.2.2.1 bt282.2.2.2.2.2.2.2.2.2.2.2.2 bt310.1 bt310.2.1 bt310.2.2.1 bt310.2.2.2.1 bt310.2.2.2.2.1 bt310.2.2.2.2.2.1 bt310.2.2.2.2.2.2.1 bt310.2.2.2.2.2.2.2.1 bt310.2.2.2.2.2.2.2.2.1 bt310.2.2.2.2.2.2.2.2.2.1 bt310.2.2.2.2.2.2.2.2.2.2.1 bt310.2.2.2.2.2.2.2.2.2.2.2.1 bt310.2.2.2.2.2.2.2.2.2.2.2.2).bind fun t327 => (if t327 = true then ((laws_toSeq.f k a1_0 a1_1 l1_2 l1_3).bind fun bt328 => ((laws_eqSeq.f k bt300.1 bt300.2.1 bt300.2.2.1 bt300.2.2.2 bt328.1 bt328.2.1 bt328.2.2.1 bt328.2.2.2).bind fun t336 => (if t336 = true then (some true) else (some false)))) else (some false))))))))))))))) = some r := h
  clear h
  replace H := Option.bind_eq_some_iff.mp H
  obtain ⟨t254, A40, H⟩ := H
  replace H : (if t254 < 0 then (some true) else ((laws_szSeq.f a1_0 a1_1 l1_2 l1_3 t254).bind fun t255 => (if t255 < 0 then (some true) else ((laws_toAdmit.f k a0_0 a0_1 a0_2 a0_3 l0_4 l0_5 a0_6 a0_7 a0_8 a0_9 a0_10 a0_11 a0_12).bind fun bt256 => ((laws_toSeq.f k a1_0 a1_1 l1_2 l1_3).bind fun bt273 => ((spec_AdmitFits.f k bt256.1 bt256.2.1 bt256.2.2.1 bt256.2.2.2.1 bt256.2.2.2.2.1 bt256.2.2.2.2.2.1 bt256.2.2.2.2.2.2.1 bt256.2.2.2.2.2.2.2.1 bt256.2.2.2.2.2.2.2.2.1 bt256.2.2.2.2.2.2.2.2.2.1 bt256.2.2.2.2.2.2.2.2.2.2.1 bt256.2.2.2.2.2.2.2.2.2.2.2.1 bt256.2.2.2.2.2.2.2.2.2.2.2.2 bt273.1 bt273.2.1 bt273.2.2.1 bt273.2.2.2 a2).bind fun t281 => ((laws_toAdmit.f k a0_0 a0_1 a0_2 a0_3 l0_4 l0_5 a0_6 a0_7 a0_8 a0_9 a0_10 a0_11 a0_12).bind fun bt282 => ((laws_toSeq.f k a1_0 a1_1 l1_2 l1_3).bind fun bt300 => ((impl_AdmitFits.f k bt282.1 bt282.2.1 bt282.2.2.1 bt282.2.2.2.1 bt282.2.2.2.2.1 bt282.2.2.2.2.2.1 bt282.2.2.2.2.2.2.1 bt282.2.2.2.2.2.2.2.1 bt282.2.2.2.2.2.2.2.2.1 bt282.2.2.2.2.2.2.2.2.2.1 bt282.2.2.2.2.2.2.2.2.2.2.1 bt282.2.2.2.2.2.2.2.2.2.2.2.1 bt282.2.2.2.2.2.2.2.2.2.2.2.2 bt300.1 bt300.2.1 bt300.2.2.1 bt300.2.2.2 a2).bind fun t309 => (if (t309 != t281) = true then (some false) else ((laws_toAdmit.f k a0_0 a0_1 a0_2 a0_3 l0_4 l0_5 a0_6 a0_7 a0_8 a0_9 a0_10 a0_11 a0_12).bind fun bt310 => ((laws_eqAdmit.f k bt282.1 bt282.2.1 bt282.2.2.1 bt282.2.2.2.1 bt282.2.2.2.2.1 bt282.2.2.2.2.2.1 bt282.2.2.2.2.2.2.1 bt282.2.2.2.2.2.2.2.1 bt282.2.2.2.2.2.2.2.2.1 bt282.2.2.2.2.2.2.2.2.2.1 bt282.2.2.2.2.2.2.2.2.2.2.1 bt282.2.2.2.2.2.2.2.2.2.2.2.1 bt282.2.2.2.2.2.2.2.2.2.2.2.2 bt310.1 bt310.2.1 bt310.2.2.1 bt310.2.2.2.1 bt310.2.2.2.2.1 bt310.2.2.2.2.2.1 bt310.2.2.2.2.2.2.1 bt310.2.2.2.2.2.2.2.1 bt310.2.2.2.2.2.2.2.2.1 bt310.2.2.2.2.2.2.2.2.2.1 bt310.2.2.2.2.2.2.2.2.2.2.1 bt310.2.2.2.2.2.2.2.2.2.2.2.1 bt310.2.2.2.2.2.2.2.2.2.2.2.2).bind fun t327 => (if t327 = true then ((laws_toSeq.f k a1_0 a1_1 l1_2 l1_3).bind fun bt328 => ((laws_eqSeq.f k bt300.1 bt300.2.1 bt300.2.2.1 bt300.2.2.2 bt328.1 bt328.2.1 bt328.2.2.1 bt328.2.2.2).bind fun t336 => (if t336 = true then (some true) else (some false)))) else (some false)))))))))))))) = some r := H
  have A4 := Aside0.mk A40
  clear A40
  by_cases c5 : t254 < 0
  · rw [if_pos c5] at H
    have c5b0 : decide (t254 < 0) = true := decide_eq_true c5
    clear c5
    obtain rfl := Option.some.inj H
    go_enter Try.func13, Try.ntmps13
    go_wp2_with (first | ((with_reducible refine gate_dst (N := 3) rfl ?_); refine box_event ?hg (N := 3) ?hd (cs := #[.bool a0_0, .bool a0_1, .int .i64 a0_2, .int .i64 a0_3, .slice A0_4 l0_4.length c0_4, .slice A0_5 l0_5.length c0_5, .int .i64 a0_6, .bool a0_7, .bool a0_8, .bool a0_9, .int .i64 a0_10, .int .i64 a0_11, .int .i64 a0_12]) (t := 66) ?hr ?_; (case hd => rfl); (case hg => rfl); (case hr => first | (go_simp; done) | (go_simp; rfl)); intro gb252 hg w6 hbox hb; have n0_ := bs HB hb; have n1_ := Aside0.mk (hbox); have n2_ := bz hg; have n3_ := bz hg; clear HB; have HB := n0_; have BK252 := n1_; have GW252 := n2_; have GE252 := n3_; clear n0_ n1_ n2_ n3_; clear hb hbox hg) | ((with_reducible refine gate_dst (N := 4) rfl ?_); refine box_event ?hg (N := 4) ?hd (cs := #[.int .i64 a1_0, .int .i64 a1_1, .slice A1_2 l1_2.length c1_2, .slice A1_3 l1_3.length c1_3]) (t := 64) ?hr ?_; (case hd => rfl); (case hg => rfl); (case hr => first | (go_simp; done) | (go_simp; rfl)); intro gb253 hg w7 hbox hb; have n0_ := Aside0.mk (blk_below (bx BK252.out) hb); have n1_ := bs HB hb; have n2_ := Aside0.mk (hbox); have n3_ := bz hg; have n4_ := bz hg; have n5_ := Aside0.mk ((by rw [hg]; exact Nat.ne_of_lt (blk_lt (bx BK252.out)) : gb252 ≠ gb253)); have n6_ := Aside0.mk ((by rw [hg]; exact Nat.ne_of_gt (blk_lt (bx BK252.out)) : gb253 ≠ gb252)); clear BK252; clear HB; have BK252 := n0_; have HB := n1_; have BK253 := n2_; have GW253 := n3_; have GE253 := n4_; have NB252_253 := n5_; have NB253_252 := n6_; clear n0_ n1_ n2_ n3_ n4_ n5_ n6_; clear hb hbox hg; have hnb8 := NB252_253.out; have hnc8 := NB253_252.out; have hcz9_0 : ∀ i, w7.cell? ⟨gb252, i, none⟩ = _ := blk_cell BK252.out; have hfz9_0 := blk_frozen BK252.out) | ((with_reducible refine gate_callee (f := 36) rfl ?_); refine goesL_ (some 14) rfl rfl Try.func36 (by kernel_rfl) rfl #[.agg #[.bool a0_0, .bool a0_1, .int .i64 a0_2, .int .i64 a0_3, .slice A0_4 l0_4.length c0_4, .slice A0_5 l0_5.length c0_5, .int .i64 a0_6, .bool a0_7, .bool a0_8, .bool a0_9, .int .i64 a0_10, .int .i64 a0_11, .int .i64 a0_12], .int .i64 1048576] rfl (by (try simp only [List.map_toArray, List.map_cons, List.map_nil]); first | done | rfl | (simp only [List.length_drop, List.length_take]; rfl)) ?_; (with_reducible refine (laws_szAdmit.calls a0_0 a0_1 a0_2 a0_3 _ _ l0_4 _ _ l0_5 a0_6 a0_7 a0_8 a0_9 a0_10 a0_11 a0_12 1048576 t254 _ ?side1 ?side2 ?side3 ?side4 A4.out).mono ?_); (case side1 => repeat (first | exact (Kd.C_below HR0_4.out HB.out) | (with_reducible refine Kd.C_alloc ?_ _) | (with_reducible refine Kd.C_drewN ?_ _) | (with_reducible refine Kd.C_drew ?_))); (case side2 => exact HC0_4.out); (case side3 => repeat (first | exact (Kd.C_below HR0_5.out HB.out) | (with_reducible refine Kd.C_alloc ?_ _) | (with_reducible refine Kd.C_drewN ?_ _) | (with_reducible refine Kd.C_drew ?_))); (case side4 => exact HC0_5.out); rintro e w10 ⟨rfl, hb⟩; refine ⟨_, rfl, ?_⟩; have n0_ := Aside0.mk (blk_below (bx BK252.out) hb); have n1_ := Aside0.mk (blk_below (bx BK253.out) hb); have n2_ := bs HB hb; clear BK252; clear BK253; clear HB; have BK252 := n0_; have BK253 := n1_; have HB := n2_; clear n0_ n1_ n2_; (try clear hb); (try clear hb2); (try clear hk); (try clear hi)))
    go_ret
    exact ⟨rr, bl⟩
  · rw [if_neg c5] at H
    have c5b0 : decide (t254 < 0) = false := decide_eq_false c5
    clear c5
    replace H := Option.bind_eq_some_iff.mp H
    obtain ⟨t255, A110, H⟩ := H
    replace H : (if t255 < 0 then (some true) else ((laws_toAdmit.f k a0_0 a0_1 a0_2 a0_3 l0_4 l0_5 a0_6 a0_7 a0_8 a0_9 a0_10 a0_11 a0_12).bind fun bt256 => ((laws_toSeq.f k a1_0 a1_1 l1_2 l1_3).bind fun bt273 => ((spec_AdmitFits.f k bt256.1 bt256.2.1 bt256.2.2.1 bt256.2.2.2.1 bt256.2.2.2.2.1 bt256.2.2.2.2.2.1 bt256.2.2.2.2.2.2.1 bt256.2.2.2.2.2.2.2.1 bt256.2.2.2.2.2.2.2.2.1 bt256.2.2.2.2.2.2.2.2.2.1 bt256.2.2.2.2.2.2.2.2.2.2.1 bt256.2.2.2.2.2.2.2.2.2.2.2.1 bt256.2.2.2.2.2.2.2.2.2.2.2.2 bt273.1 bt273.2.1 bt273.2.2.1 bt273.2.2.2 a2).bind fun t281 => ((laws_toAdmit.f k a0_0 a0_1 a0_2 a0_3 l0_4 l0_5 a0_6 a0_7 a0_8 a0_9 a0_10 a0_11 a0_12).bind fun bt282 => ((laws_toSeq.f k a1_0 a1_1 l1_2 l1_3).bind fun bt300 => ((impl_AdmitFits.f k bt282.1 bt282.2.1 bt282.2.2.1 bt282.2.2.2.1 bt282.2.2.2.2.1 bt282.2.2.2.2.2.1 bt282.2.2.2.2.2.2.1 bt282.2.2.2.2.2.2.2.1 bt282.2.2.2.2.2.2.2.2.1 bt282.2.2.2.2.2.2.2.2.2.1 bt282.2.2.2.2.2.2.2.2.2.2.1 bt282.2.2.2.2.2.2.2.2.2.2.2.1 bt282.2.2.2.2.2.2.2.2.2.2.2.2 bt300.1 bt300.2.1 bt300.2.2.1 bt300.2.2.2 a2).bind fun t309 => (if (t309 != t281) = true then (some false) else ((laws_toAdmit.f k a0_0 a0_1 a0_2 a0_3 l0_4 l0_5 a0_6 a0_7 a0_8 a0_9 a0_10 a0_11 a0_12).bind fun bt310 => ((laws_eqAdmit.f k bt282.1 bt282.2.1 bt282.2.2.1 bt282.2.2.2.1 bt282.2.2.2.2.1 bt282.2.2.2.2.2.1 bt282.2.2.2.2.2.2.1 bt282.2.2.2.2.2.2.2.1 bt282.2.2.2.2.2.2.2.2.1 bt282.2.2.2.2.2.2.2.2.2.1 bt282.2.2.2.2.2.2.2.2.2.2.1 bt282.2.2.2.2.2.2.2.2.2.2.2.1 bt282.2.2.2.2.2.2.2.2.2.2.2.2 bt310.1 bt310.2.1 bt310.2.2.1 bt310.2.2.2.1 bt310.2.2.2.2.1 bt310.2.2.2.2.2.1 bt310.2.2.2.2.2.2.1 bt310.2.2.2.2.2.2.2.1 bt310.2.2.2.2.2.2.2.2.1 bt310.2.2.2.2.2.2.2.2.2.1 bt310.2.2.2.2.2.2.2.2.2.2.1 bt310.2.2.2.2.2.2.2.2.2.2.2.1 bt310.2.2.2.2.2.2.2.2.2.2.2.2).bind fun t327 => (if t327 = true then ((laws_toSeq.f k a1_0 a1_1 l1_2 l1_3).bind fun bt328 => ((laws_eqSeq.f k bt300.1 bt300.2.1 bt300.2.2.1 bt300.2.2.2 bt328.1 bt328.2.1 bt328.2.2.1 bt328.2.2.2).bind fun t336 => (if t336 = true then (some true) else (some false)))) else (some false)))))))))))) = some r := H
    have A11 := Aside0.mk A110
    clear A110
    by_cases c12 : t255 < 0
    · rw [if_pos c12] at H
      have c12b0 : decide (t255 < 0) = true := decide_eq_true c12
      clear c12
      obtain rfl := Option.some.inj H
      go_enter Try.func13, Try.ntmps13
      go_wp2_with (first | ((with_reducible refine gate_dst (N := 3) rfl ?_); refine box_event ?hg (N := 3) ?hd (cs := #[.bool a0_0, .bool a0_1, .int .i64 a0_2, .int .i64 a0_3, .slice A0_4 l0_4.length c0_4, .slice A0_5 l0_5.length c0_5, .int .i64 a0_6, .bool a0_7, .bool a0_8, .bool a0_9, .int .i64 a0_10, .int .i64 a0_11, .int .i64 a0_12]) (t := 66) ?hr ?_; (case hd => rfl); (case hg => rfl); (case hr => first | (go_simp; done) | (go_simp; rfl)); intro gb252 hg w13 hbox hb; have n0_ := bs HB hb; have n1_ := Aside0.mk (hbox); have n2_ := bz hg; have n3_ := bz hg; clear HB; have HB := n0_; have BK252 := n1_; have GW252 := n2_; have GE252 := n3_; clear n0_ n1_ n2_ n3_; clear hb hbox hg) | ((with_reducible refine gate_dst (N := 4) rfl ?_); refine box_event ?hg (N := 4) ?hd (cs := #[.int .i64 a1_0, .int .i64 a1_1, .slice A1_2 l1_2.length c1_2, .slice A1_3 l1_3.length c1_3]) (t := 64) ?hr ?_; (case hd => rfl); (case hg => rfl); (case hr => first | (go_simp; done) | (go_simp; rfl)); intro gb253 hg w14 hbox hb; have n0_ := Aside0.mk (blk_below (bx BK252.out) hb); have n1_ := bs HB hb; have n2_ := Aside0.mk (hbox); have n3_ := bz hg; have n4_ := bz hg; have n5_ := Aside0.mk ((by rw [hg]; exact Nat.ne_of_lt (blk_lt (bx BK252.out)) : gb252 ≠ gb253)); have n6_ := Aside0.mk ((by rw [hg]; exact Nat.ne_of_gt (blk_lt (bx BK252.out)) : gb253 ≠ gb252)); clear BK252; clear HB; have BK252 := n0_; have HB := n1_; have BK253 := n2_; have GW253 := n3_; have GE253 := n4_; have NB252_253 := n5_; have NB253_252 := n6_; clear n0_ n1_ n2_ n3_ n4_ n5_ n6_; clear hb hbox hg; have hnb15 := NB252_253.out; have hnc15 := NB253_252.out; have hcz16_0 : ∀ i, w14.cell? ⟨gb252, i, none⟩ = _ := blk_cell BK252.out; have hfz16_0 := blk_frozen BK252.out) | ((with_reducible refine gate_callee (f := 36) rfl ?_); refine goesL_ (some 14) rfl rfl Try.func36 (by kernel_rfl) rfl #[.agg #[.bool a0_0, .bool a0_1, .int .i64 a0_2, .int .i64 a0_3, .slice A0_4 l0_4.length c0_4, .slice A0_5 l0_5.length c0_5, .int .i64 a0_6, .bool a0_7, .bool a0_8, .bool a0_9, .int .i64 a0_10, .int .i64 a0_11, .int .i64 a0_12], .int .i64 1048576] rfl (by (try simp only [List.map_toArray, List.map_cons, List.map_nil]); first | done | rfl | (simp only [List.length_drop, List.length_take]; rfl)) ?_; (with_reducible refine (laws_szAdmit.calls a0_0 a0_1 a0_2 a0_3 _ _ l0_4 _ _ l0_5 a0_6 a0_7 a0_8 a0_9 a0_10 a0_11 a0_12 1048576 t254 _ ?side1 ?side2 ?side3 ?side4 A4.out).mono ?_); (case side1 => repeat (first | exact (Kd.C_below HR0_4.out HB.out) | (with_reducible refine Kd.C_alloc ?_ _) | (with_reducible refine Kd.C_drewN ?_ _) | (with_reducible refine Kd.C_drew ?_))); (case side2 => exact HC0_4.out); (case side3 => repeat (first | exact (Kd.C_below HR0_5.out HB.out) | (with_reducible refine Kd.C_alloc ?_ _) | (with_reducible refine Kd.C_drewN ?_ _) | (with_reducible refine Kd.C_drew ?_))); (case side4 => exact HC0_5.out); rintro e w17 ⟨rfl, hb⟩; refine ⟨_, rfl, ?_⟩; have n0_ := Aside0.mk (blk_below (bx BK252.out) hb); have n1_ := Aside0.mk (blk_below (bx BK253.out) hb); have n2_ := bs HB hb; clear BK252; clear BK253; clear HB; have BK252 := n0_; have BK253 := n1_; have HB := n2_; clear n0_ n1_ n2_; (try clear hb); (try clear hb2); (try clear hk); (try clear hi); have hcz18_0 : ∀ i, w17.cell? ⟨gb253, i, none⟩ = _ := blk_cell BK253.out; have hfz18_0 := blk_frozen BK253.out) | ((with_reducible refine gate_callee (f := 65) rfl ?_); refine goesL_ (some 19) rfl rfl Try.func65 (by kernel_rfl) rfl #[.agg #[.int .i64 a1_0, .int .i64 a1_1, .slice A1_2 l1_2.length c1_2, .slice A1_3 l1_3.length c1_3], .int .i64 t254] rfl (by (try simp only [List.map_toArray, List.map_cons, List.map_nil]); first | done | rfl | (simp only [List.length_drop, List.length_take]; rfl)) ?_; (with_reducible refine (laws_szSeq.calls a1_0 a1_1 _ _ l1_2 _ _ l1_3 t254 t255 _ ?side1 ?side2 ?side3 ?side4 A11.out).mono ?_); (case side1 => repeat (first | exact (Kd.C_below HR1_2.out HB.out) | (with_reducible refine Kd.C_alloc ?_ _) | (with_reducible refine Kd.C_drewN ?_ _) | (with_reducible refine Kd.C_drew ?_))); (case side2 => exact HC1_2.out); (case side3 => repeat (first | exact (Kd.C_below HR1_3.out HB.out) | (with_reducible refine Kd.C_alloc ?_ _) | (with_reducible refine Kd.C_drewN ?_ _) | (with_reducible refine Kd.C_drew ?_))); (case side4 => exact HC1_3.out); rintro e w19 ⟨rfl, hb⟩; refine ⟨_, rfl, ?_⟩; have n0_ := Aside0.mk (blk_below (bx BK252.out) hb); have n1_ := Aside0.mk (blk_below (bx BK253.out) hb); have n2_ := bs HB hb; clear BK252; clear BK253; clear HB; have BK252 := n0_; have BK253 := n1_; have HB := n2_; clear n0_ n1_ n2_; (try clear hb); (try clear hb2); (try clear hk); (try clear hi)))
      go_ret
      exact ⟨rr, bl⟩
    · rw [if_neg c12] at H
      have c12b0 : decide (t255 < 0) = false := decide_eq_false c12
      clear c12
      replace H := Option.bind_eq_some_iff.mp H
      obtain ⟨⟨t256, t257, t258, t259, t260, t263, t266, t267, t268, t269, t270, t271, t272⟩, A200, H⟩ := H
      replace H : ((laws_toSeq.f k a1_0 a1_1 l1_2 l1_3).bind fun bt273 => ((spec_AdmitFits.f k t256 t257 t258 t259 t260 t263 t266 t267 t268 t269 t270 t271 t272 bt273.1 bt273.2.1 bt273.2.2.1 bt273.2.2.2 a2).bind fun t281 => ((laws_toAdmit.f k a0_0 a0_1 a0_2 a0_3 l0_4 l0_5 a0_6 a0_7 a0_8 a0_9 a0_10 a0_11 a0_12).bind fun bt282 => ((laws_toSeq.f k a1_0 a1_1 l1_2 l1_3).bind fun bt300 => ((impl_AdmitFits.f k bt282.1 bt282.2.1 bt282.2.2.1 bt282.2.2.2.1 bt282.2.2.2.2.1 bt282.2.2.2.2.2.1 bt282.2.2.2.2.2.2.1 bt282.2.2.2.2.2.2.2.1 bt282.2.2.2.2.2.2.2.2.1 bt282.2.2.2.2.2.2.2.2.2.1 bt282.2.2.2.2.2.2.2.2.2.2.1 bt282.2.2.2.2.2.2.2.2.2.2.2.1 bt282.2.2.2.2.2.2.2.2.2.2.2.2 bt300.1 bt300.2.1 bt300.2.2.1 bt300.2.2.2 a2).bind fun t309 => (if (t309 != t281) = true then (some false) else ((laws_toAdmit.f k a0_0 a0_1 a0_2 a0_3 l0_4 l0_5 a0_6 a0_7 a0_8 a0_9 a0_10 a0_11 a0_12).bind fun bt310 => ((laws_eqAdmit.f k bt282.1 bt282.2.1 bt282.2.2.1 bt282.2.2.2.1 bt282.2.2.2.2.1 bt282.2.2.2.2.2.1 bt282.2.2.2.2.2.2.1 bt282.2.2.2.2.2.2.2.1 bt282.2.2.2.2.2.2.2.2.1 bt282.2.2.2.2.2.2.2.2.2.1 bt282.2.2.2.2.2.2.2.2.2.2.1 bt282.2.2.2.2.2.2.2.2.2.2.2.1 bt282.2.2.2.2.2.2.2.2.2.2.2.2 bt310.1 bt310.2.1 bt310.2.2.1 bt310.2.2.2.1 bt310.2.2.2.2.1 bt310.2.2.2.2.2.1 bt310.2.2.2.2.2.2.1 bt310.2.2.2.2.2.2.2.1 bt310.2.2.2.2.2.2.2.2.1 bt310.2.2.2.2.2.2.2.2.2.1 bt310.2.2.2.2.2.2.2.2.2.2.1 bt310.2.2.2.2.2.2.2.2.2.2.2.1 bt310.2.2.2.2.2.2.2.2.2.2.2.2).bind fun t327 => (if t327 = true then ((laws_toSeq.f k a1_0 a1_1 l1_2 l1_3).bind fun bt328 => ((laws_eqSeq.f k bt300.1 bt300.2.1 bt300.2.2.1 bt300.2.2.2 bt328.1 bt328.2.1 bt328.2.2.1 bt328.2.2.2).bind fun t336 => (if t336 = true then (some true) else (some false)))) else (some false)))))))))) = some r := H
      have A20 := Aside0.mk A200
      clear A200
      replace H := Option.bind_eq_some_iff.mp H
      obtain ⟨⟨t273, t274, t275, t278⟩, A210, H⟩ := H
      replace H : ((spec_AdmitFits.f k t256 t257 t258 t259 t260 t263 t266 t267 t268 t269 t270 t271 t272 t273 t274 t275 t278 a2).bind fun t281 => ((laws_toAdmit.f k a0_0 a0_1 a0_2 a0_3 l0_4 l0_5 a0_6 a0_7 a0_8 a0_9 a0_10 a0_11 a0_12).bind fun bt282 => ((laws_toSeq.f k a1_0 a1_1 l1_2 l1_3).bind fun bt300 => ((impl_AdmitFits.f k bt282.1 bt282.2.1 bt282.2.2.1 bt282.2.2.2.1 bt282.2.2.2.2.1 bt282.2.2.2.2.2.1 bt282.2.2.2.2.2.2.1 bt282.2.2.2.2.2.2.2.1 bt282.2.2.2.2.2.2.2.2.1 bt282.2.2.2.2.2.2.2.2.2.1 bt282.2.2.2.2.2.2.2.2.2.2.1 bt282.2.2.2.2.2.2.2.2.2.2.2.1 bt282.2.2.2.2.2.2.2.2.2.2.2.2 bt300.1 bt300.2.1 bt300.2.2.1 bt300.2.2.2 a2).bind fun t309 => (if (t309 != t281) = true then (some false) else ((laws_toAdmit.f k a0_0 a0_1 a0_2 a0_3 l0_4 l0_5 a0_6 a0_7 a0_8 a0_9 a0_10 a0_11 a0_12).bind fun bt310 => ((laws_eqAdmit.f k bt282.1 bt282.2.1 bt282.2.2.1 bt282.2.2.2.1 bt282.2.2.2.2.1 bt282.2.2.2.2.2.1 bt282.2.2.2.2.2.2.1 bt282.2.2.2.2.2.2.2.1 bt282.2.2.2.2.2.2.2.2.1 bt282.2.2.2.2.2.2.2.2.2.1 bt282.2.2.2.2.2.2.2.2.2.2.1 bt282.2.2.2.2.2.2.2.2.2.2.2.1 bt282.2.2.2.2.2.2.2.2.2.2.2.2 bt310.1 bt310.2.1 bt310.2.2.1 bt310.2.2.2.1 bt310.2.2.2.2.1 bt310.2.2.2.2.2.1 bt310.2.2.2.2.2.2.1 bt310.2.2.2.2.2.2.2.1 bt310.2.2.2.2.2.2.2.2.1 bt310.2.2.2.2.2.2.2.2.2.1 bt310.2.2.2.2.2.2.2.2.2.2.1 bt310.2.2.2.2.2.2.2.2.2.2.2.1 bt310.2.2.2.2.2.2.2.2.2.2.2.2).bind fun t327 => (if t327 = true then ((laws_toSeq.f k a1_0 a1_1 l1_2 l1_3).bind fun bt328 => ((laws_eqSeq.f k bt300.1 bt300.2.1 bt300.2.2.1 bt300.2.2.2 bt328.1 bt328.2.1 bt328.2.2.1 bt328.2.2.2).bind fun t336 => (if t336 = true then (some true) else (some false)))) else (some false))))))))) = some r := H
      have A21 := Aside0.mk A210
      clear A210
      replace H := Option.bind_eq_some_iff.mp H
      obtain ⟨t281, A220, H⟩ := H
      replace H : ((laws_toAdmit.f k a0_0 a0_1 a0_2 a0_3 l0_4 l0_5 a0_6 a0_7 a0_8 a0_9 a0_10 a0_11 a0_12).bind fun bt282 => ((laws_toSeq.f k a1_0 a1_1 l1_2 l1_3).bind fun bt300 => ((impl_AdmitFits.f k bt282.1 bt282.2.1 bt282.2.2.1 bt282.2.2.2.1 bt282.2.2.2.2.1 bt282.2.2.2.2.2.1 bt282.2.2.2.2.2.2.1 bt282.2.2.2.2.2.2.2.1 bt282.2.2.2.2.2.2.2.2.1 bt282.2.2.2.2.2.2.2.2.2.1 bt282.2.2.2.2.2.2.2.2.2.2.1 bt282.2.2.2.2.2.2.2.2.2.2.2.1 bt282.2.2.2.2.2.2.2.2.2.2.2.2 bt300.1 bt300.2.1 bt300.2.2.1 bt300.2.2.2 a2).bind fun t309 => (if (t309 != t281) = true then (some false) else ((laws_toAdmit.f k a0_0 a0_1 a0_2 a0_3 l0_4 l0_5 a0_6 a0_7 a0_8 a0_9 a0_10 a0_11 a0_12).bind fun bt310 => ((laws_eqAdmit.f k bt282.1 bt282.2.1 bt282.2.2.1 bt282.2.2.2.1 bt282.2.2.2.2.1 bt282.2.2.2.2.2.1 bt282.2.2.2.2.2.2.1 bt282.2.2.2.2.2.2.2.1 bt282.2.2.2.2.2.2.2.2.1 bt282.2.2.2.2.2.2.2.2.2.1 bt282.2.2.2.2.2.2.2.2.2.2.1 bt282.2.2.2.2.2.2.2.2.2.2.2.1 bt282.2.2.2.2.2.2.2.2.2.2.2.2 bt310.1 bt310.2.1 bt310.2.2.1 bt310.2.2.2.1 bt310.2.2.2.2.1 bt310.2.2.2.2.2.1 bt310.2.2.2.2.2.2.1 bt310.2.2.2.2.2.2.2.1 bt310.2.2.2.2.2.2.2.2.1 bt310.2.2.2.2.2.2.2.2.2.1 bt310.2.2.2.2.2.2.2.2.2.2.1 bt310.2.2.2.2.2.2.2.2.2.2.2.1 bt310.2.2.2.2.2.2.2.2.2.2.2.2).bind fun t327 => (if t327 = true then ((laws_toSeq.f k a1_0 a1_1 l1_2 l1_3).bind fun bt328 => ((laws_eqSeq.f k bt300.1 bt300.2.1 bt300.2.2.1 bt300.2.2.2 bt328.1 bt328.2.1 bt328.2.2.1 bt328.2.2.2).bind fun t336 => (if t336 = true then (some true) else (some false)))) else (some false)))))))) = some r := H
      have A22 := Aside0.mk A220
      clear A220
      replace H := Option.bind_eq_some_iff.mp H
      obtain ⟨⟨t282, t283, t284, t285, t286, t289, t292, t293, t294, t295, t296, t297, t298⟩, A230, H⟩ := H
      replace H : ((laws_toSeq.f k a1_0 a1_1 l1_2 l1_3).bind fun bt300 => ((impl_AdmitFits.f k t282 t283 t284 t285 t286 t289 t292 t293 t294 t295 t296 t297 t298 bt300.1 bt300.2.1 bt300.2.2.1 bt300.2.2.2 a2).bind fun t309 => (if (t309 != t281) = true then (some false) else ((laws_toAdmit.f k a0_0 a0_1 a0_2 a0_3 l0_4 l0_5 a0_6 a0_7 a0_8 a0_9 a0_10 a0_11 a0_12).bind fun bt310 => ((laws_eqAdmit.f k t282 t283 t284 t285 t286 t289 t292 t293 t294 t295 t296 t297 t298 bt310.1 bt310.2.1 bt310.2.2.1 bt310.2.2.2.1 bt310.2.2.2.2.1 bt310.2.2.2.2.2.1 bt310.2.2.2.2.2.2.1 bt310.2.2.2.2.2.2.2.1 bt310.2.2.2.2.2.2.2.2.1 bt310.2.2.2.2.2.2.2.2.2.1 bt310.2.2.2.2.2.2.2.2.2.2.1 bt310.2.2.2.2.2.2.2.2.2.2.2.1 bt310.2.2.2.2.2.2.2.2.2.2.2.2).bind fun t327 => (if t327 = true then ((laws_toSeq.f k a1_0 a1_1 l1_2 l1_3).bind fun bt328 => ((laws_eqSeq.f k bt300.1 bt300.2.1 bt300.2.2.1 bt300.2.2.2 bt328.1 bt328.2.1 bt328.2.2.1 bt328.2.2.2).bind fun t336 => (if t336 = true then (some true) else (some false)))) else (some false))))))) = some r := H
      have A23 := Aside0.mk A230
      clear A230
      replace H := Option.bind_eq_some_iff.mp H
      obtain ⟨⟨t300, t301, t302, t305⟩, A240, H⟩ := H
      replace H : ((impl_AdmitFits.f k t282 t283 t284 t285 t286 t289 t292 t293 t294 t295 t296 t297 t298 t300 t301 t302 t305 a2).bind fun t309 => (if (t309 != t281) = true then (some false) else ((laws_toAdmit.f k a0_0 a0_1 a0_2 a0_3 l0_4 l0_5 a0_6 a0_7 a0_8 a0_9 a0_10 a0_11 a0_12).bind fun bt310 => ((laws_eqAdmit.f k t282 t283 t284 t285 t286 t289 t292 t293 t294 t295 t296 t297 t298 bt310.1 bt310.2.1 bt310.2.2.1 bt310.2.2.2.1 bt310.2.2.2.2.1 bt310.2.2.2.2.2.1 bt310.2.2.2.2.2.2.1 bt310.2.2.2.2.2.2.2.1 bt310.2.2.2.2.2.2.2.2.1 bt310.2.2.2.2.2.2.2.2.2.1 bt310.2.2.2.2.2.2.2.2.2.2.1 bt310.2.2.2.2.2.2.2.2.2.2.2.1 bt310.2.2.2.2.2.2.2.2.2.2.2.2).bind fun t327 => (if t327 = true then ((laws_toSeq.f k a1_0 a1_1 l1_2 l1_3).bind fun bt328 => ((laws_eqSeq.f k t300 t301 t302 t305 bt328.1 bt328.2.1 bt328.2.2.1 bt328.2.2.2).bind fun t336 => (if t336 = true then (some true) else (some false)))) else (some false)))))) = some r := H
      have A24 := Aside0.mk A240
      clear A240
      replace H := Option.bind_eq_some_iff.mp H
      obtain ⟨t309, A250, H⟩ := H
      replace H : (if (t309 != t281) = true then (some false) else ((laws_toAdmit.f k a0_0 a0_1 a0_2 a0_3 l0_4 l0_5 a0_6 a0_7 a0_8 a0_9 a0_10 a0_11 a0_12).bind fun bt310 => ((laws_eqAdmit.f k t282 t283 t284 t285 t286 t289 t292 t293 t294 t295 t296 t297 t298 bt310.1 bt310.2.1 bt310.2.2.1 bt310.2.2.2.1 bt310.2.2.2.2.1 bt310.2.2.2.2.2.1 bt310.2.2.2.2.2.2.1 bt310.2.2.2.2.2.2.2.1 bt310.2.2.2.2.2.2.2.2.1 bt310.2.2.2.2.2.2.2.2.2.1 bt310.2.2.2.2.2.2.2.2.2.2.1 bt310.2.2.2.2.2.2.2.2.2.2.2.1 bt310.2.2.2.2.2.2.2.2.2.2.2.2).bind fun t327 => (if t327 = true then ((laws_toSeq.f k a1_0 a1_1 l1_2 l1_3).bind fun bt328 => ((laws_eqSeq.f k t300 t301 t302 t305 bt328.1 bt328.2.1 bt328.2.2.1 bt328.2.2.2).bind fun t336 => (if t336 = true then (some true) else (some false)))) else (some false))))) = some r := H
      have A25 := Aside0.mk A250
      clear A250
      by_cases c26 : (t309 != t281) = true
      · rw [if_pos c26] at H
        have c26b0 : (t309 != t281) = true := c26
        (try (have c26b1 : decide (t309 = t281) = false := by simpa using c26))
        (try (have c26b2 : (t309 == t281) = false := by simpa using c26))
        (try (have c26b3 : ¬ (t309 = t281) := by simpa using c26))
        clear c26
        obtain rfl := Option.some.inj H
        exact absurd hr_.out (by decide)
      · rw [if_neg c26] at H
        have c26b0 : (t309 != t281) = false := by simpa using c26
        (try (have c26b1 : decide (t309 = t281) = true := by simpa using c26))
        (try (have c26b2 : (t309 == t281) = true := by simpa using c26))
        clear c26
        replace H := Option.bind_eq_some_iff.mp H
        obtain ⟨⟨t310, t311, t312, t313, t314, t317, t320, t321, t322, t323, t324, t325, t326⟩, A270, H⟩ := H
        replace H : ((laws_eqAdmit.f k t282 t283 t284 t285 t286 t289 t292 t293 t294 t295 t296 t297 t298 t310 t311 t312 t313 t314 t317 t320 t321 t322 t323 t324 t325 t326).bind fun t327 => (if t327 = true then ((laws_toSeq.f k a1_0 a1_1 l1_2 l1_3).bind fun bt328 => ((laws_eqSeq.f k t300 t301 t302 t305 bt328.1 bt328.2.1 bt328.2.2.1 bt328.2.2.2).bind fun t336 => (if t336 = true then (some true) else (some false)))) else (some false))) = some r := H
        have A27 := Aside0.mk A270
        clear A270
        replace H := Option.bind_eq_some_iff.mp H
        obtain ⟨t327, A280, H⟩ := H
        replace H : (if t327 = true then ((laws_toSeq.f k a1_0 a1_1 l1_2 l1_3).bind fun bt328 => ((laws_eqSeq.f k t300 t301 t302 t305 bt328.1 bt328.2.1 bt328.2.2.1 bt328.2.2.2).bind fun t336 => (if t336 = true then (some true) else (some false)))) else (some false)) = some r := H
        have A28 := Aside0.mk A280
        clear A280
        by_cases c29 : t327 = true
        · subst c29
          have H1 : ((laws_toSeq.f k a1_0 a1_1 l1_2 l1_3).bind fun bt328 => ((laws_eqSeq.f k t300 t301 t302 t305 bt328.1 bt328.2.1 bt328.2.2.1 bt328.2.2.2).bind fun t336 => (if t336 = true then (some true) else (some false)))) = some r := by rw [if_pos rfl] at H; exact H
          clear H
          have H := H1
          clear H1
          replace H := Option.bind_eq_some_iff.mp H
          obtain ⟨⟨t328, t329, t330, t333⟩, A300, H⟩ := H
          replace H : ((laws_eqSeq.f k t300 t301 t302 t305 t328 t329 t330 t333).bind fun t336 => (if t336 = true then (some true) else (some false))) = some r := H
          have A30 := Aside0.mk A300
          clear A300
          replace H := Option.bind_eq_some_iff.mp H
          obtain ⟨t336, A310, H⟩ := H
          replace H : (if t336 = true then (some true) else (some false)) = some r := H
          have A31 := Aside0.mk A310
          clear A310
          by_cases c32 : t336 = true
          · subst c32
            have H1 : (some true) = some r := by rw [if_pos rfl] at H; exact H
            clear H
            have H := H1
            clear H1
            obtain rfl := Option.some.inj H
            go_enter Try.func13, Try.ntmps13
            try go_wp2_with (first | ((with_reducible refine gate_dst (N := 3) rfl ?_); refine box_event ?hg (N := 3) ?hd (cs := #[.bool a0_0, .bool a0_1, .int .i64 a0_2, .int .i64 a0_3, .slice A0_4 l0_4.length c0_4, .slice A0_5 l0_5.length c0_5, .int .i64 a0_6, .bool a0_7, .bool a0_8, .bool a0_9, .int .i64 a0_10, .int .i64 a0_11, .int .i64 a0_12]) (t := 66) ?hr ?_; (case hd => rfl); (case hg => rfl); (case hr => first | (go_simp; done) | (go_simp; rfl)); intro gb252 hg w33 hbox hb; have n0_ := bs HB hb; have n1_ := Aside0.mk (hbox); have n2_ := bz hg; have n3_ := bz hg; clear HB; have HB := n0_; have BK252 := n1_; have GW252 := n2_; have GE252 := n3_; clear n0_ n1_ n2_ n3_; clear hb hbox hg) | ((with_reducible refine gate_dst (N := 4) rfl ?_); refine box_event ?hg (N := 4) ?hd (cs := #[.int .i64 a1_0, .int .i64 a1_1, .slice A1_2 l1_2.length c1_2, .slice A1_3 l1_3.length c1_3]) (t := 64) ?hr ?_; (case hd => rfl); (case hg => rfl); (case hr => first | (go_simp; done) | (go_simp; rfl)); intro gb253 hg w34 hbox hb; have n0_ := Aside0.mk (blk_below (bx BK252.out) hb); have n1_ := bs HB hb; have n2_ := Aside0.mk (hbox); have n3_ := bz hg; have n4_ := bz hg; have n5_ := Aside0.mk ((by rw [hg]; exact Nat.ne_of_lt (blk_lt (bx BK252.out)) : gb252 ≠ gb253)); have n6_ := Aside0.mk ((by rw [hg]; exact Nat.ne_of_gt (blk_lt (bx BK252.out)) : gb253 ≠ gb252)); clear BK252; clear HB; have BK252 := n0_; have HB := n1_; have BK253 := n2_; have GW253 := n3_; have GE253 := n4_; have NB252_253 := n5_; have NB253_252 := n6_; clear n0_ n1_ n2_ n3_ n4_ n5_ n6_; clear hb hbox hg; have hnb35 := NB252_253.out; have hnc35 := NB253_252.out; have hcz36_0 : ∀ i, w34.cell? ⟨gb252, i, none⟩ = _ := blk_cell BK252.out; have hfz36_0 := blk_frozen BK252.out) | ((with_reducible refine gate_callee (f := 36) rfl ?_); refine goesL_ (some 14) rfl rfl Try.func36 (by kernel_rfl) rfl #[.agg #[.bool a0_0, .bool a0_1, .int .i64 a0_2, .int .i64 a0_3, .slice A0_4 l0_4.length c0_4, .slice A0_5 l0_5.length c0_5, .int .i64 a0_6, .bool a0_7, .bool a0_8, .bool a0_9, .int .i64 a0_10, .int .i64 a0_11, .int .i64 a0_12], .int .i64 1048576] rfl (by (try simp only [List.map_toArray, List.map_cons, List.map_nil]); first | done | rfl | (simp only [List.length_drop, List.length_take]; rfl)) ?_; (with_reducible refine (laws_szAdmit.calls a0_0 a0_1 a0_2 a0_3 _ _ l0_4 _ _ l0_5 a0_6 a0_7 a0_8 a0_9 a0_10 a0_11 a0_12 1048576 t254 _ ?side1 ?side2 ?side3 ?side4 A4.out).mono ?_); (case side1 => repeat (first | exact (Kd.C_below HR0_4.out HB.out) | (with_reducible refine Kd.C_alloc ?_ _) | (with_reducible refine Kd.C_drewN ?_ _) | (with_reducible refine Kd.C_drew ?_))); (case side2 => exact HC0_4.out); (case side3 => repeat (first | exact (Kd.C_below HR0_5.out HB.out) | (with_reducible refine Kd.C_alloc ?_ _) | (with_reducible refine Kd.C_drewN ?_ _) | (with_reducible refine Kd.C_drew ?_))); (case side4 => exact HC0_5.out); rintro e w37 ⟨rfl, hb⟩; refine ⟨_, rfl, ?_⟩; have n0_ := Aside0.mk (blk_below (bx BK252.out) hb); have n1_ := Aside0.mk (blk_below (bx BK253.out) hb); have n2_ := bs HB hb; clear BK252; clear BK253; clear HB; have BK252 := n0_; have BK253 := n1_; have HB := n2_; clear n0_ n1_ n2_; (try clear hb); (try clear hb2); (try clear hk); (try clear hi); have hcz38_0 : ∀ i, w37.cell? ⟨gb253, i, none⟩ = _ := blk_cell BK253.out; have hfz38_0 := blk_frozen BK253.out) | ((with_reducible refine gate_callee (f := 65) rfl ?_); refine goesL_ (some 19) rfl rfl Try.func65 (by kernel_rfl) rfl #[.agg #[.int .i64 a1_0, .int .i64 a1_1, .slice A1_2 l1_2.length c1_2, .slice A1_3 l1_3.length c1_3], .int .i64 t254] rfl (by (try simp only [List.map_toArray, List.map_cons, List.map_nil]); first | done | rfl | (simp only [List.length_drop, List.length_take]; rfl)) ?_; (with_reducible refine (laws_szSeq.calls a1_0 a1_1 _ _ l1_2 _ _ l1_3 t254 t255 _ ?side1 ?side2 ?side3 ?side4 A11.out).mono ?_); (case side1 => repeat (first | exact (Kd.C_below HR1_2.out HB.out) | (with_reducible refine Kd.C_alloc ?_ _) | (with_reducible refine Kd.C_drewN ?_ _) | (with_reducible refine Kd.C_drew ?_))); (case side2 => exact HC1_2.out); (case side3 => repeat (first | exact (Kd.C_below HR1_3.out HB.out) | (with_reducible refine Kd.C_alloc ?_ _) | (with_reducible refine Kd.C_drewN ?_ _) | (with_reducible refine Kd.C_drew ?_))); (case side4 => exact HC1_3.out); rintro e w39 ⟨rfl, hb⟩; refine ⟨_, rfl, ?_⟩; have n0_ := Aside0.mk (blk_below (bx BK252.out) hb); have n1_ := Aside0.mk (blk_below (bx BK253.out) hb); have n2_ := bs HB hb; clear BK252; clear BK253; clear HB; have BK252 := n0_; have BK253 := n1_; have HB := n2_; clear n0_ n1_ n2_; (try clear hb); (try clear hb2); (try clear hk); (try clear hi)))
            have n0_ := Aside0.mk (blk_drew BK252.out)
            have n1_ := Aside0.mk (blk_drew BK253.out)
            have n2_ := Aside0.mk (below_drew1 HB.out)
            clear BK252
            clear BK253
            clear HB
            have BK252 := n0_
            have BK253 := n1_
            have HB := n2_
            clear n0_ n1_ n2_
            refine start_ (n := 7) (S := fun w' => w'.cell? ⟨gb252, 0, none⟩ = some (.bool a0_0) ∧ w'.cell? ⟨gb252, 1, none⟩ = some (.bool a0_1) ∧ w'.cell? ⟨gb252, 2, none⟩ = some (.int .i64 a0_2) ∧ w'.cell? ⟨gb252, 3, none⟩ = some (.int .i64 a0_3) ∧ w'.cell? ⟨gb252, 4, none⟩ = some (.slice A0_4 l0_4.length c0_4) ∧ w'.cell? ⟨gb252, 5, none⟩ = some (.slice A0_5 l0_5.length c0_5) ∧ w'.cell? ⟨gb252, 6, none⟩ = some (.int .i64 a0_6) ∧ w'.cell? ⟨gb252, 7, none⟩ = some (.bool a0_7) ∧ w'.cell? ⟨gb252, 8, none⟩ = some (.bool a0_8) ∧ w'.cell? ⟨gb252, 9, none⟩ = some (.bool a0_9) ∧ w'.cell? ⟨gb252, 10, none⟩ = some (.int .i64 a0_10) ∧ w'.cell? ⟨gb252, 11, none⟩ = some (.int .i64 a0_11) ∧ w'.cell? ⟨gb252, 12, none⟩ = some (.int .i64 a0_12) ∧ w'.cell? ⟨gb253, 0, none⟩ = some (.int .i64 a1_0) ∧ w'.cell? ⟨gb253, 1, none⟩ = some (.int .i64 a1_1) ∧ w'.cell? ⟨gb253, 2, none⟩ = some (.slice A1_2 l1_2.length c1_2) ∧ w'.cell? ⟨gb253, 3, none⟩ = some (.slice A1_3 l1_3.length c1_3)) (ds := []) #[false, false, false, false, false, false, false] (by kernel_rfl) rfl rfl ⟨(blk_cell BK252.out 0).trans rfl, (blk_cell BK252.out 1).trans rfl, (blk_cell BK252.out 2).trans rfl, (blk_cell BK252.out 3).trans rfl, (blk_cell BK252.out 4).trans rfl, (blk_cell BK252.out 5).trans rfl, (blk_cell BK252.out 6).trans rfl, (blk_cell BK252.out 7).trans rfl, (blk_cell BK252.out 8).trans rfl, (blk_cell BK252.out 9).trans rfl, (blk_cell BK252.out 10).trans rfl, (blk_cell BK252.out 11).trans rfl, (blk_cell BK252.out 12).trans rfl, (blk_cell BK253.out 0).trans rfl, (blk_cell BK253.out 1).trans rfl, (blk_cell BK253.out 2).trans rfl, (blk_cell BK253.out 3).trans rfl⟩ (fun hHeld => ?_)
            generalize w39.drew = w40 at BK252 BK253 HB hHeld ⊢
            refine pure_ (i := 4) (N := some 26) (v := ?_) (a' := ?_) #[false, false, false, false, true, false, false] rfl rfl (by kernel_rfl) (fun _ _ _ h => h) (Or.inl ⟨by rfl, ?_⟩) ?_ ?_
            rotate_left
            · intro w'
              go_simp
              with_reducible rfl
            rotate_left
            · simp only [Act.put, List.setIfInBounds_toArray, List.set_cons_zero, List.set_cons_succ, i64_w, i32_w]
              rfl
            refine take_ (i := 0) (N := some 22) (v := ?_) (a' := ?_) #[true, false, false, false, true, false, false] rfl rfl (by kernel_rfl) (fun _ _ _ h => h) (Or.inl ⟨by rfl, ?_⟩) hHeld ?_ ?_
            rotate_left
            · rintro w' ⟨s0, s1, s2, s3, s4, s5, s6, s7, s8, s9, s10, s11, s12, s13, s14, s15, s16⟩
              go_simp
              with_reducible rfl
            rotate_left
            · simp only [Act.put, List.setIfInBounds_toArray, List.set_cons_zero, List.set_cons_succ, i64_w, i32_w]
              rfl
            refine take_ (i := 2) (N := some 24) (v := ?_) (a' := ?_) #[true, false, true, false, true, false, false] rfl rfl (by kernel_rfl) (fun _ _ _ h => h) (Or.inl ⟨by rfl, ?_⟩) hHeld ?_ ?_
            rotate_left
            · rintro w' ⟨s0, s1, s2, s3, s4, s5, s6, s7, s8, s9, s10, s11, s12, s13, s14, s15, s16⟩
              go_simp
              with_reducible rfl
            rotate_left
            · simp only [Act.put, List.setIfInBounds_toArray, List.set_cons_zero, List.set_cons_succ, i64_w, i32_w]
              rfl
            refine one_ (i := 1) (N := some 23) #[true, true, true, false, true, false, false] rfl rfl (by kernel_rfl) (by decide) (fun K hK => ?_)
            refine goes_ Try.func38 (by kernel_rfl) rfl #[.agg #[.bool a0_0, .bool a0_1, .int .i64 a0_2, .int .i64 a0_3, .slice A0_4 l0_4.length c0_4, .slice A0_5 l0_5.length c0_5, .int .i64 a0_6, .bool a0_7, .bool a0_8, .bool a0_9, .int .i64 a0_10, .int .i64 a0_11, .int .i64 a0_12]] (by rfl) rfl rfl (by (try simp only [List.map_toArray, List.map_cons, List.map_nil]); first | done | rfl | (simp only [List.length_drop, List.length_take]; rfl)) ?_
            with_reducible refine (laws_toAdmit.calls k a0_0 a0_1 a0_2 a0_3 _ _ l0_4 _ _ l0_5 a0_6 a0_7 a0_8 a0_9 a0_10 a0_11 a0_12 t256 t257 t258 t259 t260 t263 t266 t267 t268 t269 t270 t271 t272 _ ?side1 ?side2 ?side3 ?side4 A20.out).mono ?_
            (case side1 => repeat (first | exact (Kd.C_below HR0_4.out HB.out) | (with_reducible refine Kd.C_alloc ?_ _) | (with_reducible refine Kd.C_drewN ?_ _) | (with_reducible refine Kd.C_drew ?_)))
            (case side2 => exact HC0_4.out)
            (case side3 => repeat (first | exact (Kd.C_below HR0_5.out HB.out) | (with_reducible refine Kd.C_alloc ?_ _) | (with_reducible refine Kd.C_drewN ?_ _) | (with_reducible refine Kd.C_drew ?_)))
            (case side4 => exact HC0_5.out)
            rintro e w41 ⟨v261, v264, rfl, ho0, ho1, hb⟩
            refine ⟨_, rfl, ?_⟩
            have n0_ := Aside0.mk (Kd.R_lower ho0 (below_size bl))
            have n1_ := Aside0.mk (Kd.R_lower ho1 (below_size bl))
            have n2_ := Aside0.mk (blk_below (bx BK252.out) hb)
            have n3_ := Aside0.mk (blk_below (bx BK253.out) hb)
            have n4_ := bs HB hb
            clear BK252
            clear BK253
            clear HB
            have HO262 := n0_
            have HO265 := n1_
            have BK252 := n2_
            have BK253 := n3_
            have HB := n4_
            clear n0_ n1_ n2_ n3_ n4_
            (try clear hb)
            (try clear hb2)
            (try clear hk)
            (try clear hi)
            (try clear ho0)
            (try clear ho1)
            refine hK.out _ _ ⟨(blk_cell BK252.out 0).trans rfl, (blk_cell BK252.out 1).trans rfl, (blk_cell BK252.out 2).trans rfl, (blk_cell BK252.out 3).trans rfl, (blk_cell BK252.out 4).trans rfl, (blk_cell BK252.out 5).trans rfl, (blk_cell BK252.out 6).trans rfl, (blk_cell BK252.out 7).trans rfl, (blk_cell BK252.out 8).trans rfl, (blk_cell BK252.out 9).trans rfl, (blk_cell BK252.out 10).trans rfl, (blk_cell BK252.out 11).trans rfl, (blk_cell BK252.out 12).trans rfl, (blk_cell BK253.out 0).trans rfl, (blk_cell BK253.out 1).trans rfl, (blk_cell BK253.out 2).trans rfl, (blk_cell BK253.out 3).trans rfl⟩ (fun hHeld => ?_)
            clear hK K
            refine norm_ (a' := ?_) ?_ ?_
            rotate_left
            · show Act.put _ (some 23) _ = _
              simp only [Act.put, List.setIfInBounds_toArray, List.set_cons_zero, List.set_cons_succ, i64_w, i32_w]
              rfl
            refine one_ (i := 3) (N := some 25) #[true, true, true, true, true, false, false] rfl rfl (by kernel_rfl) (by decide) (fun K hK => ?_)
            refine goes_ Try.func67 (by kernel_rfl) rfl #[.agg #[.int .i64 a1_0, .int .i64 a1_1, .slice A1_2 l1_2.length c1_2, .slice A1_3 l1_3.length c1_3]] (by rfl) rfl rfl (by (try simp only [List.map_toArray, List.map_cons, List.map_nil]); first | done | rfl | (simp only [List.length_drop, List.length_take]; rfl)) ?_
            with_reducible refine (laws_toSeq.calls k a1_0 a1_1 _ _ l1_2 _ _ l1_3 t273 t274 t275 t278 _ ?side1 ?side2 ?side3 ?side4 A21.out).mono ?_
            (case side1 => repeat (first | exact (Kd.C_below HR1_2.out HB.out) | (with_reducible refine Kd.C_alloc ?_ _) | (with_reducible refine Kd.C_drewN ?_ _) | (with_reducible refine Kd.C_drew ?_)))
            (case side2 => exact HC1_2.out)
            (case side3 => repeat (first | exact (Kd.C_below HR1_3.out HB.out) | (with_reducible refine Kd.C_alloc ?_ _) | (with_reducible refine Kd.C_drewN ?_ _) | (with_reducible refine Kd.C_drew ?_)))
            (case side4 => exact HC1_3.out)
            rintro e w42 ⟨v276, v279, rfl, ho0, ho1, hb⟩
            refine ⟨_, rfl, ?_⟩
            have n0_ := Aside0.mk (Kd.R_mono (Kd.R_told (Kd.R_told (Kd.R_old (by (with_reducible repeat (first | apply Kd.R_alloc | apply Kd.R_drewN | apply Kd.R_drew)); exact HO262.out) hb) (Kd.R_base ho0)) (Kd.R_base ho1)) (fun _ h_ => h_.1))
            have n1_ := Aside0.mk (Kd.R_mono (Kd.R_told (Kd.R_told (Kd.R_old (by (with_reducible repeat (first | apply Kd.R_alloc | apply Kd.R_drewN | apply Kd.R_drew)); exact HO265.out) hb) (Kd.R_base ho0)) (Kd.R_base ho1)) (fun _ h_ => h_.1))
            have n2_ := Aside0.mk (Kd.R_lower (Kd.R_new' (Kd.R_new' ho0 (Kd.R_lt (by (with_reducible repeat (first | apply Kd.R_alloc | apply Kd.R_drewN | apply Kd.R_drew)); exact HO262.out))) (Kd.R_lt (by (with_reducible repeat (first | apply Kd.R_alloc | apply Kd.R_drewN | apply Kd.R_drew)); exact HO265.out))) (below_size bl))
            have n3_ := Aside0.mk (Kd.R_lower (Kd.R_new' (Kd.R_new' ho1 (Kd.R_lt (by (with_reducible repeat (first | apply Kd.R_alloc | apply Kd.R_drewN | apply Kd.R_drew)); exact HO262.out))) (Kd.R_lt (by (with_reducible repeat (first | apply Kd.R_alloc | apply Kd.R_drewN | apply Kd.R_drew)); exact HO265.out))) (below_size bl))
            have n4_ := Aside0.mk (blk_below (bx BK252.out) hb)
            have n5_ := Aside0.mk (blk_below (bx BK253.out) hb)
            have n6_ := bs HB hb
            clear HO262
            clear HO265
            clear BK252
            clear BK253
            clear HB
            have HO262 := n0_
            have HO265 := n1_
            have HO277 := n2_
            have HO280 := n3_
            have BK252 := n4_
            have BK253 := n5_
            have HB := n6_
            clear n0_ n1_ n2_ n3_ n4_ n5_ n6_
            (try clear hb)
            (try clear hb2)
            (try clear hk)
            (try clear hi)
            (try clear ho0)
            (try clear ho1)
            obtain ⟨Ao43, co43, eo43⟩ := Kd.R_slice HO262.out
            (first | subst eo43 | (injection eo43 with f1_ f2_ f3_; have f4_ := f1_.symm; have f5_ := f3_.symm; clear f1_ f2_ f3_; subst f4_; subst f5_))
            obtain ⟨Ao44, co44, eo44⟩ := Kd.R_slice HO265.out
            (first | subst eo44 | (injection eo44 with f1_ f2_ f3_; have f4_ := f1_.symm; have f5_ := f3_.symm; clear f1_ f2_ f3_; subst f4_; subst f5_))
            obtain ⟨Ao45, co45, eo45⟩ := Kd.R_slice HO277.out
            (first | subst eo45 | (injection eo45 with f1_ f2_ f3_; have f4_ := f1_.symm; have f5_ := f3_.symm; clear f1_ f2_ f3_; subst f4_; subst f5_))
            obtain ⟨Ao46, co46, eo46⟩ := Kd.R_slice HO280.out
            (first | subst eo46 | (injection eo46 with f1_ f2_ f3_; have f4_ := f1_.symm; have f5_ := f3_.symm; clear f1_ f2_ f3_; subst f4_; subst f5_))
            refine hK.out _ _ ⟨(blk_cell BK252.out 0).trans rfl, (blk_cell BK252.out 1).trans rfl, (blk_cell BK252.out 2).trans rfl, (blk_cell BK252.out 3).trans rfl, (blk_cell BK252.out 4).trans rfl, (blk_cell BK252.out 5).trans rfl, (blk_cell BK252.out 6).trans rfl, (blk_cell BK252.out 7).trans rfl, (blk_cell BK252.out 8).trans rfl, (blk_cell BK252.out 9).trans rfl, (blk_cell BK252.out 10).trans rfl, (blk_cell BK252.out 11).trans rfl, (blk_cell BK252.out 12).trans rfl, (blk_cell BK253.out 0).trans rfl, (blk_cell BK253.out 1).trans rfl, (blk_cell BK253.out 2).trans rfl, (blk_cell BK253.out 3).trans rfl⟩ (fun hHeld => ?_)
            clear hK K
            refine norm_ (a' := ?_) ?_ ?_
            rotate_left
            · show Act.put _ (some 25) _ = _
              simp only [Act.put, List.setIfInBounds_toArray, List.set_cons_zero, List.set_cons_succ, i64_w, i32_w]
              rfl
            refine one_ (i := 5) (N := some 27) #[true, true, true, true, true, true, false] rfl rfl (by kernel_rfl) (by decide) (fun K hK => ?_)
            refine goes_ Try.func66 (by kernel_rfl) rfl #[.agg #[.bool t256, .bool t257, .int .i64 t258, .int .i64 t259, .slice Ao43 t260.length co43, .slice Ao44 t263.length co44, .int .i64 t266, .bool t267, .bool t268, .bool t269, .int .i64 t270, .int .i64 t271, .int .i64 t272], .agg #[.int .i64 t273, .int .i64 t274, .slice Ao45 t275.length co45, .slice Ao46 t278.length co46], .int .i64 a2] (by rfl) rfl rfl (by (try simp only [List.map_toArray, List.map_cons, List.map_nil]); first | done | rfl | (simp only [List.length_drop, List.length_take]; rfl)) ?_
            with_reducible refine (spec_AdmitFits.calls k t256 t257 t258 t259 _ _ t260 _ _ t263 t266 t267 t268 t269 t270 t271 t272 t273 t274 _ _ t275 _ _ t278 a2 t281 _ ?side1 ?side2 ?side3 ?side4 ?side5 ?side6 ?side7 ?side8 A22.out).mono ?_
            (case side1 => repeat (first | exact (Kd.R_reads' HO262.out).2.2 | (with_reducible refine Kd.C_alloc ?_ _) | (with_reducible refine Kd.C_drewN ?_ _) | (with_reducible refine Kd.C_drew ?_)))
            (case side2 => exact (Kd.R_reads' HO262.out).2.1)
            (case side3 => repeat (first | exact (Kd.R_reads' HO265.out).2.2 | (with_reducible refine Kd.C_alloc ?_ _) | (with_reducible refine Kd.C_drewN ?_ _) | (with_reducible refine Kd.C_drew ?_)))
            (case side4 => exact (Kd.R_reads' HO265.out).2.1)
            (case side5 => repeat (first | exact (Kd.R_reads' HO277.out).2.2 | (with_reducible refine Kd.C_alloc ?_ _) | (with_reducible refine Kd.C_drewN ?_ _) | (with_reducible refine Kd.C_drew ?_)))
            (case side6 => exact (Kd.R_reads' HO277.out).2.1)
            (case side7 => repeat (first | exact (Kd.R_reads' HO280.out).2.2 | (with_reducible refine Kd.C_alloc ?_ _) | (with_reducible refine Kd.C_drewN ?_ _) | (with_reducible refine Kd.C_drew ?_)))
            (case side8 => exact (Kd.R_reads' HO280.out).2.1)
            rintro e w47 ⟨rfl, hb⟩
            refine ⟨_, rfl, ?_⟩
            have n0_ := Aside0.mk (Kd.R_below (by (with_reducible repeat (first | apply Kd.R_alloc | apply Kd.R_drewN | apply Kd.R_drew)); exact HO262.out) hb)
            have n1_ := Aside0.mk (Kd.R_below (by (with_reducible repeat (first | apply Kd.R_alloc | apply Kd.R_drewN | apply Kd.R_drew)); exact HO265.out) hb)
            have n2_ := Aside0.mk (Kd.R_below (by (with_reducible repeat (first | apply Kd.R_alloc | apply Kd.R_drewN | apply Kd.R_drew)); exact HO277.out) hb)
            have n3_ := Aside0.mk (Kd.R_below (by (with_reducible repeat (first | apply Kd.R_alloc | apply Kd.R_drewN | apply Kd.R_drew)); exact HO280.out) hb)
            have n4_ := Aside0.mk (blk_below (bx BK252.out) hb)
            have n5_ := Aside0.mk (blk_below (bx BK253.out) hb)
            have n6_ := bs HB hb
            clear HO262
            clear HO265
            clear HO277
            clear HO280
            clear BK252
            clear BK253
            clear HB
            have HO262 := n0_
            have HO265 := n1_
            have HO277 := n2_
            have HO280 := n3_
            have BK252 := n4_
            have BK253 := n5_
            have HB := n6_
            clear n0_ n1_ n2_ n3_ n4_ n5_ n6_
            (try clear hb)
            (try clear hb2)
            (try clear hk)
            (try clear hi)
            refine hK.out _ _ ⟨(blk_cell BK252.out 0).trans rfl, (blk_cell BK252.out 1).trans rfl, (blk_cell BK252.out 2).trans rfl, (blk_cell BK252.out 3).trans rfl, (blk_cell BK252.out 4).trans rfl, (blk_cell BK252.out 5).trans rfl, (blk_cell BK252.out 6).trans rfl, (blk_cell BK252.out 7).trans rfl, (blk_cell BK252.out 8).trans rfl, (blk_cell BK252.out 9).trans rfl, (blk_cell BK252.out 10).trans rfl, (blk_cell BK252.out 11).trans rfl, (blk_cell BK252.out 12).trans rfl, (blk_cell BK253.out 0).trans rfl, (blk_cell BK253.out 1).trans rfl, (blk_cell BK253.out 2).trans rfl, (blk_cell BK253.out 3).trans rfl⟩ (fun hHeld => ?_)
            clear hK K
            refine norm_ (a' := ?_) ?_ ?_
            rotate_left
            · show Act.put _ (some 27) _ = _
              simp only [Act.put, List.setIfInBounds_toArray, List.set_cons_zero, List.set_cons_succ, i64_w, i32_w]
              rfl
            refine pure_ (i := 6) (N := some 8) (v := ?_) (a' := ?_) #[true, true, true, true, true, true, true] rfl rfl (by kernel_rfl) (fun _ _ _ h => h) (Or.inl ⟨by rfl, ?_⟩) ?_ ?_
            rotate_left
            · intro w'
              go_simp
              with_reducible rfl
            rotate_left
            · simp only [Act.put, List.setIfInBounds_toArray, List.set_cons_zero, List.set_cons_succ, i64_w, i32_w]
              rfl
            refine done_ (by kernel_rfl) ?_
            have hcz48_0 : ∀ i, w47.cell? ⟨gb252, i, none⟩ = _ := blk_cell BK252.out
            have hcz48_1 : w47.cell? ⟨gb252, 1, none⟩ = some (.bool a0_1) := (blk_cell BK252.out 1).trans rfl
            have hcz48_2 : w47.cell? ⟨gb252, 2, none⟩ = some (.int .i64 a0_2) := (blk_cell BK252.out 2).trans rfl
            have hcz48_3 : w47.cell? ⟨gb252, 3, none⟩ = some (.int .i64 a0_3) := (blk_cell BK252.out 3).trans rfl
            have hcz48_4 : w47.cell? ⟨gb252, 4, none⟩ = some (.slice A0_4 l0_4.length c0_4) := (blk_cell BK252.out 4).trans rfl
            have hcz48_5 : w47.cell? ⟨gb252, 5, none⟩ = some (.slice A0_5 l0_5.length c0_5) := (blk_cell BK252.out 5).trans rfl
            have hcz48_6 : w47.cell? ⟨gb252, 6, none⟩ = some (.int .i64 a0_6) := (blk_cell BK252.out 6).trans rfl
            have hcz48_7 : w47.cell? ⟨gb252, 7, none⟩ = some (.bool a0_7) := (blk_cell BK252.out 7).trans rfl
            have hcz48_8 : w47.cell? ⟨gb252, 8, none⟩ = some (.bool a0_8) := (blk_cell BK252.out 8).trans rfl
            have hcz48_9 : w47.cell? ⟨gb252, 9, none⟩ = some (.bool a0_9) := (blk_cell BK252.out 9).trans rfl
            have hcz48_10 : w47.cell? ⟨gb252, 10, none⟩ = some (.int .i64 a0_10) := (blk_cell BK252.out 10).trans rfl
            have hcz48_11 : w47.cell? ⟨gb252, 11, none⟩ = some (.int .i64 a0_11) := (blk_cell BK252.out 11).trans rfl
            have hcz48_12 : w47.cell? ⟨gb252, 12, none⟩ = some (.int .i64 a0_12) := (blk_cell BK252.out 12).trans rfl
            have hfz48_0 := blk_frozen BK252.out
            have hfz48_1 := blk_frozen BK252.out 1
            have hfz48_2 := blk_frozen BK252.out 2
            have hfz48_3 := blk_frozen BK252.out 3
            have hfz48_4 := blk_frozen BK252.out 4
            have hfz48_5 := blk_frozen BK252.out 5
            have hfz48_6 := blk_frozen BK252.out 6
            have hfz48_7 := blk_frozen BK252.out 7
            have hfz48_8 := blk_frozen BK252.out 8
            have hfz48_9 := blk_frozen BK252.out 9
            have hfz48_10 := blk_frozen BK252.out 10
            have hfz48_11 := blk_frozen BK252.out 11
            have hfz48_12 := blk_frozen BK252.out 12
            try go_wp2_with (first | ((with_reducible refine gate_callee (f := 38) rfl ?_); refine goesL_ (some 29) rfl rfl Try.func38 (by kernel_rfl) rfl #[.agg #[.bool a0_0, .bool a0_1, .int .i64 a0_2, .int .i64 a0_3, .slice A0_4 l0_4.length c0_4, .slice A0_5 l0_5.length c0_5, .int .i64 a0_6, .bool a0_7, .bool a0_8, .bool a0_9, .int .i64 a0_10, .int .i64 a0_11, .int .i64 a0_12]] rfl (by (try simp only [List.map_toArray, List.map_cons, List.map_nil]); first | done | rfl | (simp only [List.length_drop, List.length_take]; rfl)) ?_; (with_reducible refine (laws_toAdmit.calls k a0_0 a0_1 a0_2 a0_3 _ _ l0_4 _ _ l0_5 a0_6 a0_7 a0_8 a0_9 a0_10 a0_11 a0_12 t282 t283 t284 t285 t286 t289 t292 t293 t294 t295 t296 t297 t298 _ ?side1 ?side2 ?side3 ?side4 A23.out).mono ?_); (case side1 => repeat (first | exact (Kd.C_below HR0_4.out HB.out) | (with_reducible refine Kd.C_alloc ?_ _) | (with_reducible refine Kd.C_drewN ?_ _) | (with_reducible refine Kd.C_drew ?_))); (case side2 => exact HC0_4.out); (case side3 => repeat (first | exact (Kd.C_below HR0_5.out HB.out) | (with_reducible refine Kd.C_alloc ?_ _) | (with_reducible refine Kd.C_drewN ?_ _) | (with_reducible refine Kd.C_drew ?_))); (case side4 => exact HC0_5.out); rintro e w49 ⟨v287, v290, rfl, ho0, ho1, hb⟩; refine ⟨_, rfl, ?_⟩; have n0_ := Aside0.mk (Kd.R_mono (Kd.R_told (Kd.R_told (Kd.R_old (by (with_reducible repeat (first | apply Kd.R_alloc | apply Kd.R_drewN | apply Kd.R_drew)); exact HO262.out) hb) (Kd.R_base ho0)) (Kd.R_base ho1)) (fun _ h_ => h_.1)); have n1_ := Aside0.mk (Kd.R_mono (Kd.R_told (Kd.R_told (Kd.R_old (by (with_reducible repeat (first | apply Kd.R_alloc | apply Kd.R_drewN | apply Kd.R_drew)); exact HO265.out) hb) (Kd.R_base ho0)) (Kd.R_base ho1)) (fun _ h_ => h_.1)); have n2_ := Aside0.mk (Kd.R_mono (Kd.R_told (Kd.R_told (Kd.R_old (by (with_reducible repeat (first | apply Kd.R_alloc | apply Kd.R_drewN | apply Kd.R_drew)); exact HO277.out) hb) (Kd.R_base ho0)) (Kd.R_base ho1)) (fun _ h_ => h_.1)); have n3_ := Aside0.mk (Kd.R_mono (Kd.R_told (Kd.R_told (Kd.R_old (by (with_reducible repeat (first | apply Kd.R_alloc | apply Kd.R_drewN | apply Kd.R_drew)); exact HO280.out) hb) (Kd.R_base ho0)) (Kd.R_base ho1)) (fun _ h_ => h_.1)); have n4_ := Aside0.mk (Kd.R_lower (Kd.R_new' (Kd.R_new' (Kd.R_new' (Kd.R_new' ho0 (Kd.R_lt (by (with_reducible repeat (first | apply Kd.R_alloc | apply Kd.R_drewN | apply Kd.R_drew)); exact HO262.out))) (Kd.R_lt (by (with_reducible repeat (first | apply Kd.R_alloc | apply Kd.R_drewN | apply Kd.R_drew)); exact HO265.out))) (Kd.R_lt (by (with_reducible repeat (first | apply Kd.R_alloc | apply Kd.R_drewN | apply Kd.R_drew)); exact HO277.out))) (Kd.R_lt (by (with_reducible repeat (first | apply Kd.R_alloc | apply Kd.R_drewN | apply Kd.R_drew)); exact HO280.out))) (below_size bl)); have n5_ := Aside0.mk (Kd.R_lower (Kd.R_new' (Kd.R_new' (Kd.R_new' (Kd.R_new' ho1 (Kd.R_lt (by (with_reducible repeat (first | apply Kd.R_alloc | apply Kd.R_drewN | apply Kd.R_drew)); exact HO262.out))) (Kd.R_lt (by (with_reducible repeat (first | apply Kd.R_alloc | apply Kd.R_drewN | apply Kd.R_drew)); exact HO265.out))) (Kd.R_lt (by (with_reducible repeat (first | apply Kd.R_alloc | apply Kd.R_drewN | apply Kd.R_drew)); exact HO277.out))) (Kd.R_lt (by (with_reducible repeat (first | apply Kd.R_alloc | apply Kd.R_drewN | apply Kd.R_drew)); exact HO280.out))) (below_size bl)); have n6_ := Aside0.mk (blk_below (bx BK252.out) hb); have n7_ := Aside0.mk (blk_below (bx BK253.out) hb); have n8_ := bs HB hb; clear HO262; clear HO265; clear HO277; clear HO280; clear BK252; clear BK253; clear HB; have HO262 := n0_; have HO265 := n1_; have HO277 := n2_; have HO280 := n3_; have HO288 := n4_; have HO291 := n5_; have BK252 := n6_; have BK253 := n7_; have HB := n8_; clear n0_ n1_ n2_ n3_ n4_ n5_ n6_ n7_ n8_; (try clear hb); (try clear hb2); (try clear hk); (try clear hi); (try clear ho0); (try clear ho1)) | ((with_reducible refine gate_dst (N := 9) rfl ?_); refine box_event ?hg (N := 9) ?hd (cs := #[.bool false, .bool false, .int .i64 0, .int .i64 0, .slice none 0 0, .slice none 0 0, .int .i64 0, .bool false, .bool false, .bool false, .int .i64 0, .int .i64 0, .int .i64 0]) (t := 70) ?hr ?_; (case hd => rfl); (case hg => rfl); (case hr => first | (go_simp; done) | (go_simp; rfl)); intro gb299 hg w50 hbox hb; have n0_ := Aside0.mk (Kd.R_below (by (with_reducible repeat (first | apply Kd.R_alloc | apply Kd.R_drewN | apply Kd.R_drew)); exact HO262.out) hb); have n1_ := Aside0.mk (Kd.R_below (by (with_reducible repeat (first | apply Kd.R_alloc | apply Kd.R_drewN | apply Kd.R_drew)); exact HO265.out) hb); have n2_ := Aside0.mk (Kd.R_below (by (with_reducible repeat (first | apply Kd.R_alloc | apply Kd.R_drewN | apply Kd.R_drew)); exact HO277.out) hb); have n3_ := Aside0.mk (Kd.R_below (by (with_reducible repeat (first | apply Kd.R_alloc | apply Kd.R_drewN | apply Kd.R_drew)); exact HO280.out) hb); have n4_ := Aside0.mk (Kd.R_below (by (with_reducible repeat (first | apply Kd.R_alloc | apply Kd.R_drewN | apply Kd.R_drew)); exact HO288.out) hb); have n5_ := Aside0.mk (Kd.R_below (by (with_reducible repeat (first | apply Kd.R_alloc | apply Kd.R_drewN | apply Kd.R_drew)); exact HO291.out) hb); have n6_ := Aside0.mk (blk_below (bx BK252.out) hb); have n7_ := Aside0.mk (blk_below (bx BK253.out) hb); have n8_ := bs HB hb; have n9_ := Aside0.mk (hbox); have n10_ := bz hg; have n11_ := bz hg; have n12_ := Aside0.mk ((by rw [hg]; exact Nat.ne_of_lt (blk_lt (bx BK252.out)) : gb252 ≠ gb299)); have n13_ := Aside0.mk ((by rw [hg]; exact Nat.ne_of_gt (blk_lt (bx BK252.out)) : gb299 ≠ gb252)); have n14_ := Aside0.mk ((by rw [hg]; exact Nat.ne_of_lt (blk_lt (bx BK253.out)) : gb253 ≠ gb299)); have n15_ := Aside0.mk ((by rw [hg]; exact Nat.ne_of_gt (blk_lt (bx BK253.out)) : gb299 ≠ gb253)); clear HO262; clear HO265; clear HO277; clear HO280; clear HO288; clear HO291; clear BK252; clear BK253; clear HB; have HO262 := n0_; have HO265 := n1_; have HO277 := n2_; have HO280 := n3_; have HO288 := n4_; have HO291 := n5_; have BK252 := n6_; have BK253 := n7_; have HB := n8_; have BK299 := n9_; have GW299 := n10_; have GE299 := n11_; have NB252_299 := n12_; have NB299_252 := n13_; have NB253_299 := n14_; have NB299_253 := n15_; clear n0_ n1_ n2_ n3_ n4_ n5_ n6_ n7_ n8_ n9_ n10_ n11_ n12_ n13_ n14_ n15_; clear hb hbox hg; have hnb51 := NB299_252.out; have hnc51 := NB252_299.out; have hnb52 := NB299_253.out; have hnc52 := NB253_299.out; have hcz53_0 : ∀ i, w50.cell? ⟨gb299, i, none⟩ = _ := blk_cell BK299.out; have hfz53_0 := blk_frozen BK299.out; obtain ⟨Ao54, co54, eo54⟩ := Kd.R_slice HO288.out; subst eo54; obtain ⟨Ao55, co55, eo55⟩ := Kd.R_slice HO291.out; subst eo55; have hcz56_0 : ∀ i, w50.cell? ⟨gb253, i, none⟩ = _ := blk_cell BK253.out; have hfz56_0 := blk_frozen BK253.out) | ((with_reducible refine gate_callee (f := 67) rfl ?_); refine goesL_ (some 31) rfl rfl Try.func67 (by kernel_rfl) rfl #[.agg #[.int .i64 a1_0, .int .i64 a1_1, .slice A1_2 l1_2.length c1_2, .slice A1_3 l1_3.length c1_3]] rfl (by (try simp only [List.map_toArray, List.map_cons, List.map_nil]); first | done | rfl | (simp only [List.length_drop, List.length_take]; rfl)) ?_; (with_reducible refine (laws_toSeq.calls k a1_0 a1_1 _ _ l1_2 _ _ l1_3 t300 t301 t302 t305 _ ?side1 ?side2 ?side3 ?side4 A24.out).mono ?_); (case side1 => exact Kd.C_below HR1_2.out bl); (case side2 => exact HC1_2.out); (case side3 => exact Kd.C_below HR1_3.out bl); (case side4 => exact HC1_3.out); rintro e w57 ⟨v303, v306, rfl, ho0, ho1, hb⟩; refine ⟨_, rfl, ?_⟩; have n0_ := Aside0.mk (Kd.R_mono (Kd.R_told (Kd.R_told (Kd.R_old (by (with_reducible repeat (first | apply Kd.R_alloc | apply Kd.R_drewN | apply Kd.R_drew)); exact (Kd.R_mono (Kd.R_far (p := ⟨gb299, 12, none⟩) (Kd.R_far (p := ⟨gb299, 11, none⟩) (Kd.R_far (p := ⟨gb299, 10, none⟩) (Kd.R_far (p := ⟨gb299, 9, none⟩) (Kd.R_far (p := ⟨gb299, 8, none⟩) (Kd.R_far (p := ⟨gb299, 7, none⟩) (Kd.R_far (p := ⟨gb299, 6, none⟩) (Kd.R_far (p := ⟨gb299, 5, none⟩) (Kd.R_far (p := ⟨gb299, 4, none⟩) (Kd.R_far (p := ⟨gb299, 3, none⟩) (Kd.R_far (p := ⟨gb299, 2, none⟩) (Kd.R_far (p := ⟨gb299, 1, none⟩) (Kd.R_far (p := ⟨gb299, 0, none⟩) (Kd.R_types HO262.out BK299.out (by decide)) (fun _ hk => hk.2) (.bool t282)) (fun _ hk => hk.2) (.bool t283)) (fun _ hk => hk.2) (.int .i64 t284)) (fun _ hk => hk.2) (.int .i64 t285)) (fun _ hk => hk.2) (.slice Ao54 t286.length co54)) (fun _ hk => hk.2) (.slice Ao55 t289.length co55)) (fun _ hk => hk.2) (.int .i64 t292)) (fun _ hk => hk.2) (.bool t293)) (fun _ hk => hk.2) (.bool t294)) (fun _ hk => hk.2) (.bool t295)) (fun _ hk => hk.2) (.int .i64 t296)) (fun _ hk => hk.2) (.int .i64 t297)) (fun _ hk => hk.2) (.int .i64 t298)) (fun _ h_ => h_.1))) hb) (Kd.R_base ho0)) (Kd.R_base ho1)) (fun _ h_ => h_.1)); have n1_ := Aside0.mk (Kd.R_mono (Kd.R_told (Kd.R_told (Kd.R_old (by (with_reducible repeat (first | apply Kd.R_alloc | apply Kd.R_drewN | apply Kd.R_drew)); exact (Kd.R_mono (Kd.R_far (p := ⟨gb299, 12, none⟩) (Kd.R_far (p := ⟨gb299, 11, none⟩) (Kd.R_far (p := ⟨gb299, 10, none⟩) (Kd.R_far (p := ⟨gb299, 9, none⟩) (Kd.R_far (p := ⟨gb299, 8, none⟩) (Kd.R_far (p := ⟨gb299, 7, none⟩) (Kd.R_far (p := ⟨gb299, 6, none⟩) (Kd.R_far (p := ⟨gb299, 5, none⟩) (Kd.R_far (p := ⟨gb299, 4, none⟩) (Kd.R_far (p := ⟨gb299, 3, none⟩) (Kd.R_far (p := ⟨gb299, 2, none⟩) (Kd.R_far (p := ⟨gb299, 1, none⟩) (Kd.R_far (p := ⟨gb299, 0, none⟩) (Kd.R_types HO265.out BK299.out (by decide)) (fun _ hk => hk.2) (.bool t282)) (fun _ hk => hk.2) (.bool t283)) (fun _ hk => hk.2) (.int .i64 t284)) (fun _ hk => hk.2) (.int .i64 t285)) (fun _ hk => hk.2) (.slice Ao54 t286.length co54)) (fun _ hk => hk.2) (.slice Ao55 t289.length co55)) (fun _ hk => hk.2) (.int .i64 t292)) (fun _ hk => hk.2) (.bool t293)) (fun _ hk => hk.2) (.bool t294)) (fun _ hk => hk.2) (.bool t295)) (fun _ hk => hk.2) (.int .i64 t296)) (fun _ hk => hk.2) (.int .i64 t297)) (fun _ hk => hk.2) (.int .i64 t298)) (fun _ h_ => h_.1))) hb) (Kd.R_base ho0)) (Kd.R_base ho1)) (fun _ h_ => h_.1)); have n2_ := Aside0.mk (Kd.R_mono (Kd.R_told (Kd.R_told (Kd.R_old (by (with_reducible repeat (first | apply Kd.R_alloc | apply Kd.R_drewN | apply Kd.R_drew)); exact (Kd.R_mono (Kd.R_far (p := ⟨gb299, 12, none⟩) (Kd.R_far (p := ⟨gb299, 11, none⟩) (Kd.R_far (p := ⟨gb299, 10, none⟩) (Kd.R_far (p := ⟨gb299, 9, none⟩) (Kd.R_far (p := ⟨gb299, 8, none⟩) (Kd.R_far (p := ⟨gb299, 7, none⟩) (Kd.R_far (p := ⟨gb299, 6, none⟩) (Kd.R_far (p := ⟨gb299, 5, none⟩) (Kd.R_far (p := ⟨gb299, 4, none⟩) (Kd.R_far (p := ⟨gb299, 3, none⟩) (Kd.R_far (p := ⟨gb299, 2, none⟩) (Kd.R_far (p := ⟨gb299, 1, none⟩) (Kd.R_far (p := ⟨gb299, 0, none⟩) (Kd.R_types HO277.out BK299.out (by decide)) (fun _ hk => hk.2) (.bool t282)) (fun _ hk => hk.2) (.bool t283)) (fun _ hk => hk.2) (.int .i64 t284)) (fun _ hk => hk.2) (.int .i64 t285)) (fun _ hk => hk.2) (.slice Ao54 t286.length co54)) (fun _ hk => hk.2) (.slice Ao55 t289.length co55)) (fun _ hk => hk.2) (.int .i64 t292)) (fun _ hk => hk.2) (.bool t293)) (fun _ hk => hk.2) (.bool t294)) (fun _ hk => hk.2) (.bool t295)) (fun _ hk => hk.2) (.int .i64 t296)) (fun _ hk => hk.2) (.int .i64 t297)) (fun _ hk => hk.2) (.int .i64 t298)) (fun _ h_ => h_.1))) hb) (Kd.R_base ho0)) (Kd.R_base ho1)) (fun _ h_ => h_.1)); have n3_ := Aside0.mk (Kd.R_mono (Kd.R_told (Kd.R_told (Kd.R_old (by (with_reducible repeat (first | apply Kd.R_alloc | apply Kd.R_drewN | apply Kd.R_drew)); exact (Kd.R_mono (Kd.R_far (p := ⟨gb299, 12, none⟩) (Kd.R_far (p := ⟨gb299, 11, none⟩) (Kd.R_far (p := ⟨gb299, 10, none⟩) (Kd.R_far (p := ⟨gb299, 9, none⟩) (Kd.R_far (p := ⟨gb299, 8, none⟩) (Kd.R_far (p := ⟨gb299, 7, none⟩) (Kd.R_far (p := ⟨gb299, 6, none⟩) (Kd.R_far (p := ⟨gb299, 5, none⟩) (Kd.R_far (p := ⟨gb299, 4, none⟩) (Kd.R_far (p := ⟨gb299, 3, none⟩) (Kd.R_far (p := ⟨gb299, 2, none⟩) (Kd.R_far (p := ⟨gb299, 1, none⟩) (Kd.R_far (p := ⟨gb299, 0, none⟩) (Kd.R_types HO280.out BK299.out (by decide)) (fun _ hk => hk.2) (.bool t282)) (fun _ hk => hk.2) (.bool t283)) (fun _ hk => hk.2) (.int .i64 t284)) (fun _ hk => hk.2) (.int .i64 t285)) (fun _ hk => hk.2) (.slice Ao54 t286.length co54)) (fun _ hk => hk.2) (.slice Ao55 t289.length co55)) (fun _ hk => hk.2) (.int .i64 t292)) (fun _ hk => hk.2) (.bool t293)) (fun _ hk => hk.2) (.bool t294)) (fun _ hk => hk.2) (.bool t295)) (fun _ hk => hk.2) (.int .i64 t296)) (fun _ hk => hk.2) (.int .i64 t297)) (fun _ hk => hk.2) (.int .i64 t298)) (fun _ h_ => h_.1))) hb) (Kd.R_base ho0)) (Kd.R_base ho1)) (fun _ h_ => h_.1)); have n4_ := Aside0.mk (Kd.R_mono (Kd.R_told (Kd.R_told (Kd.R_old (by (with_reducible repeat (first | apply Kd.R_alloc | apply Kd.R_drewN | apply Kd.R_drew)); exact (Kd.R_mono (Kd.R_far (p := ⟨gb299, 12, none⟩) (Kd.R_far (p := ⟨gb299, 11, none⟩) (Kd.R_far (p := ⟨gb299, 10, none⟩) (Kd.R_far (p := ⟨gb299, 9, none⟩) (Kd.R_far (p := ⟨gb299, 8, none⟩) (Kd.R_far (p := ⟨gb299, 7, none⟩) (Kd.R_far (p := ⟨gb299, 6, none⟩) (Kd.R_far (p := ⟨gb299, 5, none⟩) (Kd.R_far (p := ⟨gb299, 4, none⟩) (Kd.R_far (p := ⟨gb299, 3, none⟩) (Kd.R_far (p := ⟨gb299, 2, none⟩) (Kd.R_far (p := ⟨gb299, 1, none⟩) (Kd.R_far (p := ⟨gb299, 0, none⟩) (Kd.R_types HO288.out BK299.out (by decide)) (fun _ hk => hk.2) (.bool t282)) (fun _ hk => hk.2) (.bool t283)) (fun _ hk => hk.2) (.int .i64 t284)) (fun _ hk => hk.2) (.int .i64 t285)) (fun _ hk => hk.2) (.slice Ao54 t286.length co54)) (fun _ hk => hk.2) (.slice Ao55 t289.length co55)) (fun _ hk => hk.2) (.int .i64 t292)) (fun _ hk => hk.2) (.bool t293)) (fun _ hk => hk.2) (.bool t294)) (fun _ hk => hk.2) (.bool t295)) (fun _ hk => hk.2) (.int .i64 t296)) (fun _ hk => hk.2) (.int .i64 t297)) (fun _ hk => hk.2) (.int .i64 t298)) (fun _ h_ => h_.1))) hb) (Kd.R_base ho0)) (Kd.R_base ho1)) (fun _ h_ => h_.1)); have n5_ := Aside0.mk (Kd.R_mono (Kd.R_told (Kd.R_told (Kd.R_old (by (with_reducible repeat (first | apply Kd.R_alloc | apply Kd.R_drewN | apply Kd.R_drew)); exact (Kd.R_mono (Kd.R_far (p := ⟨gb299, 12, none⟩) (Kd.R_far (p := ⟨gb299, 11, none⟩) (Kd.R_far (p := ⟨gb299, 10, none⟩) (Kd.R_far (p := ⟨gb299, 9, none⟩) (Kd.R_far (p := ⟨gb299, 8, none⟩) (Kd.R_far (p := ⟨gb299, 7, none⟩) (Kd.R_far (p := ⟨gb299, 6, none⟩) (Kd.R_far (p := ⟨gb299, 5, none⟩) (Kd.R_far (p := ⟨gb299, 4, none⟩) (Kd.R_far (p := ⟨gb299, 3, none⟩) (Kd.R_far (p := ⟨gb299, 2, none⟩) (Kd.R_far (p := ⟨gb299, 1, none⟩) (Kd.R_far (p := ⟨gb299, 0, none⟩) (Kd.R_types HO291.out BK299.out (by decide)) (fun _ hk => hk.2) (.bool t282)) (fun _ hk => hk.2) (.bool t283)) (fun _ hk => hk.2) (.int .i64 t284)) (fun _ hk => hk.2) (.int .i64 t285)) (fun _ hk => hk.2) (.slice Ao54 t286.length co54)) (fun _ hk => hk.2) (.slice Ao55 t289.length co55)) (fun _ hk => hk.2) (.int .i64 t292)) (fun _ hk => hk.2) (.bool t293)) (fun _ hk => hk.2) (.bool t294)) (fun _ hk => hk.2) (.bool t295)) (fun _ hk => hk.2) (.int .i64 t296)) (fun _ hk => hk.2) (.int .i64 t297)) (fun _ hk => hk.2) (.int .i64 t298)) (fun _ h_ => h_.1))) hb) (Kd.R_base ho0)) (Kd.R_base ho1)) (fun _ h_ => h_.1)); have n6_ := Aside0.mk (Kd.R_lower (Kd.R_new' (Kd.R_new' (Kd.R_new' (Kd.R_new' (Kd.R_new' (Kd.R_new' ho0 (Kd.R_lt (by (with_reducible repeat (first | apply Kd.R_alloc | apply Kd.R_drewN | apply Kd.R_drew)); exact (Kd.R_mono (Kd.R_far (p := ⟨gb299, 12, none⟩) (Kd.R_far (p := ⟨gb299, 11, none⟩) (Kd.R_far (p := ⟨gb299, 10, none⟩) (Kd.R_far (p := ⟨gb299, 9, none⟩) (Kd.R_far (p := ⟨gb299, 8, none⟩) (Kd.R_far (p := ⟨gb299, 7, none⟩) (Kd.R_far (p := ⟨gb299, 6, none⟩) (Kd.R_far (p := ⟨gb299, 5, none⟩) (Kd.R_far (p := ⟨gb299, 4, none⟩) (Kd.R_far (p := ⟨gb299, 3, none⟩) (Kd.R_far (p := ⟨gb299, 2, none⟩) (Kd.R_far (p := ⟨gb299, 1, none⟩) (Kd.R_far (p := ⟨gb299, 0, none⟩) (Kd.R_types HO262.out BK299.out (by decide)) (fun _ hk => hk.2) (.bool t282)) (fun _ hk => hk.2) (.bool t283)) (fun _ hk => hk.2) (.int .i64 t284)) (fun _ hk => hk.2) (.int .i64 t285)) (fun _ hk => hk.2) (.slice Ao54 t286.length co54)) (fun _ hk => hk.2) (.slice Ao55 t289.length co55)) (fun _ hk => hk.2) (.int .i64 t292)) (fun _ hk => hk.2) (.bool t293)) (fun _ hk => hk.2) (.bool t294)) (fun _ hk => hk.2) (.bool t295)) (fun _ hk => hk.2) (.int .i64 t296)) (fun _ hk => hk.2) (.int .i64 t297)) (fun _ hk => hk.2) (.int .i64 t298)) (fun _ h_ => h_.1))))) (Kd.R_lt (by (with_reducible repeat (first | apply Kd.R_alloc | apply Kd.R_drewN | apply Kd.R_drew)); exact (Kd.R_mono (Kd.R_far (p := ⟨gb299, 12, none⟩) (Kd.R_far (p := ⟨gb299, 11, none⟩) (Kd.R_far (p := ⟨gb299, 10, none⟩) (Kd.R_far (p := ⟨gb299, 9, none⟩) (Kd.R_far (p := ⟨gb299, 8, none⟩) (Kd.R_far (p := ⟨gb299, 7, none⟩) (Kd.R_far (p := ⟨gb299, 6, none⟩) (Kd.R_far (p := ⟨gb299, 5, none⟩) (Kd.R_far (p := ⟨gb299, 4, none⟩) (Kd.R_far (p := ⟨gb299, 3, none⟩) (Kd.R_far (p := ⟨gb299, 2, none⟩) (Kd.R_far (p := ⟨gb299, 1, none⟩) (Kd.R_far (p := ⟨gb299, 0, none⟩) (Kd.R_types HO265.out BK299.out (by decide)) (fun _ hk => hk.2) (.bool t282)) (fun _ hk => hk.2) (.bool t283)) (fun _ hk => hk.2) (.int .i64 t284)) (fun _ hk => hk.2) (.int .i64 t285)) (fun _ hk => hk.2) (.slice Ao54 t286.length co54)) (fun _ hk => hk.2) (.slice Ao55 t289.length co55)) (fun _ hk => hk.2) (.int .i64 t292)) (fun _ hk => hk.2) (.bool t293)) (fun _ hk => hk.2) (.bool t294)) (fun _ hk => hk.2) (.bool t295)) (fun _ hk => hk.2) (.int .i64 t296)) (fun _ hk => hk.2) (.int .i64 t297)) (fun _ hk => hk.2) (.int .i64 t298)) (fun _ h_ => h_.1))))) (Kd.R_lt (by (with_reducible repeat (first | apply Kd.R_alloc | apply Kd.R_drewN | apply Kd.R_drew)); exact (Kd.R_mono (Kd.R_far (p := ⟨gb299, 12, none⟩) (Kd.R_far (p := ⟨gb299, 11, none⟩) (Kd.R_far (p := ⟨gb299, 10, none⟩) (Kd.R_far (p := ⟨gb299, 9, none⟩) (Kd.R_far (p := ⟨gb299, 8, none⟩) (Kd.R_far (p := ⟨gb299, 7, none⟩) (Kd.R_far (p := ⟨gb299, 6, none⟩) (Kd.R_far (p := ⟨gb299, 5, none⟩) (Kd.R_far (p := ⟨gb299, 4, none⟩) (Kd.R_far (p := ⟨gb299, 3, none⟩) (Kd.R_far (p := ⟨gb299, 2, none⟩) (Kd.R_far (p := ⟨gb299, 1, none⟩) (Kd.R_far (p := ⟨gb299, 0, none⟩) (Kd.R_types HO277.out BK299.out (by decide)) (fun _ hk => hk.2) (.bool t282)) (fun _ hk => hk.2) (.bool t283)) (fun _ hk => hk.2) (.int .i64 t284)) (fun _ hk => hk.2) (.int .i64 t285)) (fun _ hk => hk.2) (.slice Ao54 t286.length co54)) (fun _ hk => hk.2) (.slice Ao55 t289.length co55)) (fun _ hk => hk.2) (.int .i64 t292)) (fun _ hk => hk.2) (.bool t293)) (fun _ hk => hk.2) (.bool t294)) (fun _ hk => hk.2) (.bool t295)) (fun _ hk => hk.2) (.int .i64 t296)) (fun _ hk => hk.2) (.int .i64 t297)) (fun _ hk => hk.2) (.int .i64 t298)) (fun _ h_ => h_.1))))) (Kd.R_lt (by (with_reducible repeat (first | apply Kd.R_alloc | apply Kd.R_drewN | apply Kd.R_drew)); exact (Kd.R_mono (Kd.R_far (p := ⟨gb299, 12, none⟩) (Kd.R_far (p := ⟨gb299, 11, none⟩) (Kd.R_far (p := ⟨gb299, 10, none⟩) (Kd.R_far (p := ⟨gb299, 9, none⟩) (Kd.R_far (p := ⟨gb299, 8, none⟩) (Kd.R_far (p := ⟨gb299, 7, none⟩) (Kd.R_far (p := ⟨gb299, 6, none⟩) (Kd.R_far (p := ⟨gb299, 5, none⟩) (Kd.R_far (p := ⟨gb299, 4, none⟩) (Kd.R_far (p := ⟨gb299, 3, none⟩) (Kd.R_far (p := ⟨gb299, 2, none⟩) (Kd.R_far (p := ⟨gb299, 1, none⟩) (Kd.R_far (p := ⟨gb299, 0, none⟩) (Kd.R_types HO280.out BK299.out (by decide)) (fun _ hk => hk.2) (.bool t282)) (fun _ hk => hk.2) (.bool t283)) (fun _ hk => hk.2) (.int .i64 t284)) (fun _ hk => hk.2) (.int .i64 t285)) (fun _ hk => hk.2) (.slice Ao54 t286.length co54)) (fun _ hk => hk.2) (.slice Ao55 t289.length co55)) (fun _ hk => hk.2) (.int .i64 t292)) (fun _ hk => hk.2) (.bool t293)) (fun _ hk => hk.2) (.bool t294)) (fun _ hk => hk.2) (.bool t295)) (fun _ hk => hk.2) (.int .i64 t296)) (fun _ hk => hk.2) (.int .i64 t297)) (fun _ hk => hk.2) (.int .i64 t298)) (fun _ h_ => h_.1))))) (Kd.R_lt (by (with_reducible repeat (first | apply Kd.R_alloc | apply Kd.R_drewN | apply Kd.R_drew)); exact (Kd.R_mono (Kd.R_far (p := ⟨gb299, 12, none⟩) (Kd.R_far (p := ⟨gb299, 11, none⟩) (Kd.R_far (p := ⟨gb299, 10, none⟩) (Kd.R_far (p := ⟨gb299, 9, none⟩) (Kd.R_far (p := ⟨gb299, 8, none⟩) (Kd.R_far (p := ⟨gb299, 7, none⟩) (Kd.R_far (p := ⟨gb299, 6, none⟩) (Kd.R_far (p := ⟨gb299, 5, none⟩) (Kd.R_far (p := ⟨gb299, 4, none⟩) (Kd.R_far (p := ⟨gb299, 3, none⟩) (Kd.R_far (p := ⟨gb299, 2, none⟩) (Kd.R_far (p := ⟨gb299, 1, none⟩) (Kd.R_far (p := ⟨gb299, 0, none⟩) (Kd.R_types HO288.out BK299.out (by decide)) (fun _ hk => hk.2) (.bool t282)) (fun _ hk => hk.2) (.bool t283)) (fun _ hk => hk.2) (.int .i64 t284)) (fun _ hk => hk.2) (.int .i64 t285)) (fun _ hk => hk.2) (.slice Ao54 t286.length co54)) (fun _ hk => hk.2) (.slice Ao55 t289.length co55)) (fun _ hk => hk.2) (.int .i64 t292)) (fun _ hk => hk.2) (.bool t293)) (fun _ hk => hk.2) (.bool t294)) (fun _ hk => hk.2) (.bool t295)) (fun _ hk => hk.2) (.int .i64 t296)) (fun _ hk => hk.2) (.int .i64 t297)) (fun _ hk => hk.2) (.int .i64 t298)) (fun _ h_ => h_.1))))) (Kd.R_lt (by (with_reducible repeat (first | apply Kd.R_alloc | apply Kd.R_drewN | apply Kd.R_drew)); exact (Kd.R_mono (Kd.R_far (p := ⟨gb299, 12, none⟩) (Kd.R_far (p := ⟨gb299, 11, none⟩) (Kd.R_far (p := ⟨gb299, 10, none⟩) (Kd.R_far (p := ⟨gb299, 9, none⟩) (Kd.R_far (p := ⟨gb299, 8, none⟩) (Kd.R_far (p := ⟨gb299, 7, none⟩) (Kd.R_far (p := ⟨gb299, 6, none⟩) (Kd.R_far (p := ⟨gb299, 5, none⟩) (Kd.R_far (p := ⟨gb299, 4, none⟩) (Kd.R_far (p := ⟨gb299, 3, none⟩) (Kd.R_far (p := ⟨gb299, 2, none⟩) (Kd.R_far (p := ⟨gb299, 1, none⟩) (Kd.R_far (p := ⟨gb299, 0, none⟩) (Kd.R_types HO291.out BK299.out (by decide)) (fun _ hk => hk.2) (.bool t282)) (fun _ hk => hk.2) (.bool t283)) (fun _ hk => hk.2) (.int .i64 t284)) (fun _ hk => hk.2) (.int .i64 t285)) (fun _ hk => hk.2) (.slice Ao54 t286.length co54)) (fun _ hk => hk.2) (.slice Ao55 t289.length co55)) (fun _ hk => hk.2) (.int .i64 t292)) (fun _ hk => hk.2) (.bool t293)) (fun _ hk => hk.2) (.bool t294)) (fun _ hk => hk.2) (.bool t295)) (fun _ hk => hk.2) (.int .i64 t296)) (fun _ hk => hk.2) (.int .i64 t297)) (fun _ hk => hk.2) (.int .i64 t298)) (fun _ h_ => h_.1))))) (below_size bl)); have n7_ := Aside0.mk (Kd.R_lower (Kd.R_new' (Kd.R_new' (Kd.R_new' (Kd.R_new' (Kd.R_new' (Kd.R_new' ho1 (Kd.R_lt (by (with_reducible repeat (first | apply Kd.R_alloc | apply Kd.R_drewN | apply Kd.R_drew)); exact (Kd.R_mono (Kd.R_far (p := ⟨gb299, 12, none⟩) (Kd.R_far (p := ⟨gb299, 11, none⟩) (Kd.R_far (p := ⟨gb299, 10, none⟩) (Kd.R_far (p := ⟨gb299, 9, none⟩) (Kd.R_far (p := ⟨gb299, 8, none⟩) (Kd.R_far (p := ⟨gb299, 7, none⟩) (Kd.R_far (p := ⟨gb299, 6, none⟩) (Kd.R_far (p := ⟨gb299, 5, none⟩) (Kd.R_far (p := ⟨gb299, 4, none⟩) (Kd.R_far (p := ⟨gb299, 3, none⟩) (Kd.R_far (p := ⟨gb299, 2, none⟩) (Kd.R_far (p := ⟨gb299, 1, none⟩) (Kd.R_far (p := ⟨gb299, 0, none⟩) (Kd.R_types HO262.out BK299.out (by decide)) (fun _ hk => hk.2) (.bool t282)) (fun _ hk => hk.2) (.bool t283)) (fun _ hk => hk.2) (.int .i64 t284)) (fun _ hk => hk.2) (.int .i64 t285)) (fun _ hk => hk.2) (.slice Ao54 t286.length co54)) (fun _ hk => hk.2) (.slice Ao55 t289.length co55)) (fun _ hk => hk.2) (.int .i64 t292)) (fun _ hk => hk.2) (.bool t293)) (fun _ hk => hk.2) (.bool t294)) (fun _ hk => hk.2) (.bool t295)) (fun _ hk => hk.2) (.int .i64 t296)) (fun _ hk => hk.2) (.int .i64 t297)) (fun _ hk => hk.2) (.int .i64 t298)) (fun _ h_ => h_.1))))) (Kd.R_lt (by (with_reducible repeat (first | apply Kd.R_alloc | apply Kd.R_drewN | apply Kd.R_drew)); exact (Kd.R_mono (Kd.R_far (p := ⟨gb299, 12, none⟩) (Kd.R_far (p := ⟨gb299, 11, none⟩) (Kd.R_far (p := ⟨gb299, 10, none⟩) (Kd.R_far (p := ⟨gb299, 9, none⟩) (Kd.R_far (p := ⟨gb299, 8, none⟩) (Kd.R_far (p := ⟨gb299, 7, none⟩) (Kd.R_far (p := ⟨gb299, 6, none⟩) (Kd.R_far (p := ⟨gb299, 5, none⟩) (Kd.R_far (p := ⟨gb299, 4, none⟩) (Kd.R_far (p := ⟨gb299, 3, none⟩) (Kd.R_far (p := ⟨gb299, 2, none⟩) (Kd.R_far (p := ⟨gb299, 1, none⟩) (Kd.R_far (p := ⟨gb299, 0, none⟩) (Kd.R_types HO265.out BK299.out (by decide)) (fun _ hk => hk.2) (.bool t282)) (fun _ hk => hk.2) (.bool t283)) (fun _ hk => hk.2) (.int .i64 t284)) (fun _ hk => hk.2) (.int .i64 t285)) (fun _ hk => hk.2) (.slice Ao54 t286.length co54)) (fun _ hk => hk.2) (.slice Ao55 t289.length co55)) (fun _ hk => hk.2) (.int .i64 t292)) (fun _ hk => hk.2) (.bool t293)) (fun _ hk => hk.2) (.bool t294)) (fun _ hk => hk.2) (.bool t295)) (fun _ hk => hk.2) (.int .i64 t296)) (fun _ hk => hk.2) (.int .i64 t297)) (fun _ hk => hk.2) (.int .i64 t298)) (fun _ h_ => h_.1))))) (Kd.R_lt (by (with_reducible repeat (first | apply Kd.R_alloc | apply Kd.R_drewN | apply Kd.R_drew)); exact (Kd.R_mono (Kd.R_far (p := ⟨gb299, 12, none⟩) (Kd.R_far (p := ⟨gb299, 11, none⟩) (Kd.R_far (p := ⟨gb299, 10, none⟩) (Kd.R_far (p := ⟨gb299, 9, none⟩) (Kd.R_far (p := ⟨gb299, 8, none⟩) (Kd.R_far (p := ⟨gb299, 7, none⟩) (Kd.R_far (p := ⟨gb299, 6, none⟩) (Kd.R_far (p := ⟨gb299, 5, none⟩) (Kd.R_far (p := ⟨gb299, 4, none⟩) (Kd.R_far (p := ⟨gb299, 3, none⟩) (Kd.R_far (p := ⟨gb299, 2, none⟩) (Kd.R_far (p := ⟨gb299, 1, none⟩) (Kd.R_far (p := ⟨gb299, 0, none⟩) (Kd.R_types HO277.out BK299.out (by decide)) (fun _ hk => hk.2) (.bool t282)) (fun _ hk => hk.2) (.bool t283)) (fun _ hk => hk.2) (.int .i64 t284)) (fun _ hk => hk.2) (.int .i64 t285)) (fun _ hk => hk.2) (.slice Ao54 t286.length co54)) (fun _ hk => hk.2) (.slice Ao55 t289.length co55)) (fun _ hk => hk.2) (.int .i64 t292)) (fun _ hk => hk.2) (.bool t293)) (fun _ hk => hk.2) (.bool t294)) (fun _ hk => hk.2) (.bool t295)) (fun _ hk => hk.2) (.int .i64 t296)) (fun _ hk => hk.2) (.int .i64 t297)) (fun _ hk => hk.2) (.int .i64 t298)) (fun _ h_ => h_.1))))) (Kd.R_lt (by (with_reducible repeat (first | apply Kd.R_alloc | apply Kd.R_drewN | apply Kd.R_drew)); exact (Kd.R_mono (Kd.R_far (p := ⟨gb299, 12, none⟩) (Kd.R_far (p := ⟨gb299, 11, none⟩) (Kd.R_far (p := ⟨gb299, 10, none⟩) (Kd.R_far (p := ⟨gb299, 9, none⟩) (Kd.R_far (p := ⟨gb299, 8, none⟩) (Kd.R_far (p := ⟨gb299, 7, none⟩) (Kd.R_far (p := ⟨gb299, 6, none⟩) (Kd.R_far (p := ⟨gb299, 5, none⟩) (Kd.R_far (p := ⟨gb299, 4, none⟩) (Kd.R_far (p := ⟨gb299, 3, none⟩) (Kd.R_far (p := ⟨gb299, 2, none⟩) (Kd.R_far (p := ⟨gb299, 1, none⟩) (Kd.R_far (p := ⟨gb299, 0, none⟩) (Kd.R_types HO280.out BK299.out (by decide)) (fun _ hk => hk.2) (.bool t282)) (fun _ hk => hk.2) (.bool t283)) (fun _ hk => hk.2) (.int .i64 t284)) (fun _ hk => hk.2) (.int .i64 t285)) (fun _ hk => hk.2) (.slice Ao54 t286.length co54)) (fun _ hk => hk.2) (.slice Ao55 t289.length co55)) (fun _ hk => hk.2) (.int .i64 t292)) (fun _ hk => hk.2) (.bool t293)) (fun _ hk => hk.2) (.bool t294)) (fun _ hk => hk.2) (.bool t295)) (fun _ hk => hk.2) (.int .i64 t296)) (fun _ hk => hk.2) (.int .i64 t297)) (fun _ hk => hk.2) (.int .i64 t298)) (fun _ h_ => h_.1))))) (Kd.R_lt (by (with_reducible repeat (first | apply Kd.R_alloc | apply Kd.R_drewN | apply Kd.R_drew)); exact (Kd.R_mono (Kd.R_far (p := ⟨gb299, 12, none⟩) (Kd.R_far (p := ⟨gb299, 11, none⟩) (Kd.R_far (p := ⟨gb299, 10, none⟩) (Kd.R_far (p := ⟨gb299, 9, none⟩) (Kd.R_far (p := ⟨gb299, 8, none⟩) (Kd.R_far (p := ⟨gb299, 7, none⟩) (Kd.R_far (p := ⟨gb299, 6, none⟩) (Kd.R_far (p := ⟨gb299, 5, none⟩) (Kd.R_far (p := ⟨gb299, 4, none⟩) (Kd.R_far (p := ⟨gb299, 3, none⟩) (Kd.R_far (p := ⟨gb299, 2, none⟩) (Kd.R_far (p := ⟨gb299, 1, none⟩) (Kd.R_far (p := ⟨gb299, 0, none⟩) (Kd.R_types HO288.out BK299.out (by decide)) (fun _ hk => hk.2) (.bool t282)) (fun _ hk => hk.2) (.bool t283)) (fun _ hk => hk.2) (.int .i64 t284)) (fun _ hk => hk.2) (.int .i64 t285)) (fun _ hk => hk.2) (.slice Ao54 t286.length co54)) (fun _ hk => hk.2) (.slice Ao55 t289.length co55)) (fun _ hk => hk.2) (.int .i64 t292)) (fun _ hk => hk.2) (.bool t293)) (fun _ hk => hk.2) (.bool t294)) (fun _ hk => hk.2) (.bool t295)) (fun _ hk => hk.2) (.int .i64 t296)) (fun _ hk => hk.2) (.int .i64 t297)) (fun _ hk => hk.2) (.int .i64 t298)) (fun _ h_ => h_.1))))) (Kd.R_lt (by (with_reducible repeat (first | apply Kd.R_alloc | apply Kd.R_drewN | apply Kd.R_drew)); exact (Kd.R_mono (Kd.R_far (p := ⟨gb299, 12, none⟩) (Kd.R_far (p := ⟨gb299, 11, none⟩) (Kd.R_far (p := ⟨gb299, 10, none⟩) (Kd.R_far (p := ⟨gb299, 9, none⟩) (Kd.R_far (p := ⟨gb299, 8, none⟩) (Kd.R_far (p := ⟨gb299, 7, none⟩) (Kd.R_far (p := ⟨gb299, 6, none⟩) (Kd.R_far (p := ⟨gb299, 5, none⟩) (Kd.R_far (p := ⟨gb299, 4, none⟩) (Kd.R_far (p := ⟨gb299, 3, none⟩) (Kd.R_far (p := ⟨gb299, 2, none⟩) (Kd.R_far (p := ⟨gb299, 1, none⟩) (Kd.R_far (p := ⟨gb299, 0, none⟩) (Kd.R_types HO291.out BK299.out (by decide)) (fun _ hk => hk.2) (.bool t282)) (fun _ hk => hk.2) (.bool t283)) (fun _ hk => hk.2) (.int .i64 t284)) (fun _ hk => hk.2) (.int .i64 t285)) (fun _ hk => hk.2) (.slice Ao54 t286.length co54)) (fun _ hk => hk.2) (.slice Ao55 t289.length co55)) (fun _ hk => hk.2) (.int .i64 t292)) (fun _ hk => hk.2) (.bool t293)) (fun _ hk => hk.2) (.bool t294)) (fun _ hk => hk.2) (.bool t295)) (fun _ hk => hk.2) (.int .i64 t296)) (fun _ hk => hk.2) (.int .i64 t297)) (fun _ hk => hk.2) (.int .i64 t298)) (fun _ h_ => h_.1))))) (below_size bl)); have n8_ := Aside0.mk (blk_below (g := gb252) (o := .cells #[.bool a0_0, .bool a0_1, .int .i64 a0_2, .int .i64 a0_3, .slice A0_4 l0_4.length c0_4, .slice A0_5 l0_5.length c0_5, .int .i64 a0_6, .bool a0_7, .bool a0_8, .bool a0_9, .int .i64 a0_10, .int .i64 a0_11, .int .i64 a0_12] 66 (0, 0)) (by (with_reducible repeat (first | refine blk_drewN ?_ _ | refine blk_drew ?_ | refine blk_alloc ?_ _)); refine blk_far ?_ NB252_299.out _; (with_reducible repeat (first | refine blk_drewN ?_ _ | refine blk_drew ?_ | refine blk_alloc ?_ _)); refine blk_far ?_ NB252_299.out _; (with_reducible repeat (first | refine blk_drewN ?_ _ | refine blk_drew ?_ | refine blk_alloc ?_ _)); refine blk_far ?_ NB252_299.out _; (with_reducible repeat (first | refine blk_drewN ?_ _ | refine blk_drew ?_ | refine blk_alloc ?_ _)); refine blk_far ?_ NB252_299.out _; (with_reducible repeat (first | refine blk_drewN ?_ _ | refine blk_drew ?_ | refine blk_alloc ?_ _)); refine blk_far ?_ NB252_299.out _; (with_reducible repeat (first | refine blk_drewN ?_ _ | refine blk_drew ?_ | refine blk_alloc ?_ _)); refine blk_far ?_ NB252_299.out _; (with_reducible repeat (first | refine blk_drewN ?_ _ | refine blk_drew ?_ | refine blk_alloc ?_ _)); refine blk_far ?_ NB252_299.out _; (with_reducible repeat (first | refine blk_drewN ?_ _ | refine blk_drew ?_ | refine blk_alloc ?_ _)); refine blk_far ?_ NB252_299.out _; (with_reducible repeat (first | refine blk_drewN ?_ _ | refine blk_drew ?_ | refine blk_alloc ?_ _)); refine blk_far ?_ NB252_299.out _; (with_reducible repeat (first | refine blk_drewN ?_ _ | refine blk_drew ?_ | refine blk_alloc ?_ _)); refine blk_far ?_ NB252_299.out _; (with_reducible repeat (first | refine blk_drewN ?_ _ | refine blk_drew ?_ | refine blk_alloc ?_ _)); refine blk_far ?_ NB252_299.out _; (with_reducible repeat (first | refine blk_drewN ?_ _ | refine blk_drew ?_ | refine blk_alloc ?_ _)); refine blk_far ?_ NB252_299.out _; (with_reducible repeat (first | refine blk_drewN ?_ _ | refine blk_drew ?_ | refine blk_alloc ?_ _)); refine blk_far ?_ NB252_299.out _; (with_reducible repeat (first | refine blk_drewN ?_ _ | refine blk_drew ?_ | refine blk_alloc ?_ _)); exact BK252.out) hb); have n9_ := Aside0.mk (blk_below (g := gb253) (o := .cells #[.int .i64 a1_0, .int .i64 a1_1, .slice A1_2 l1_2.length c1_2, .slice A1_3 l1_3.length c1_3] 64 (0, 0)) (by (with_reducible repeat (first | refine blk_drewN ?_ _ | refine blk_drew ?_ | refine blk_alloc ?_ _)); refine blk_far ?_ NB253_299.out _; (with_reducible repeat (first | refine blk_drewN ?_ _ | refine blk_drew ?_ | refine blk_alloc ?_ _)); refine blk_far ?_ NB253_299.out _; (with_reducible repeat (first | refine blk_drewN ?_ _ | refine blk_drew ?_ | refine blk_alloc ?_ _)); refine blk_far ?_ NB253_299.out _; (with_reducible repeat (first | refine blk_drewN ?_ _ | refine blk_drew ?_ | refine blk_alloc ?_ _)); refine blk_far ?_ NB253_299.out _; (with_reducible repeat (first | refine blk_drewN ?_ _ | refine blk_drew ?_ | refine blk_alloc ?_ _)); refine blk_far ?_ NB253_299.out _; (with_reducible repeat (first | refine blk_drewN ?_ _ | refine blk_drew ?_ | refine blk_alloc ?_ _)); refine blk_far ?_ NB253_299.out _; (with_reducible repeat (first | refine blk_drewN ?_ _ | refine blk_drew ?_ | refine blk_alloc ?_ _)); refine blk_far ?_ NB253_299.out _; (with_reducible repeat (first | refine blk_drewN ?_ _ | refine blk_drew ?_ | refine blk_alloc ?_ _)); refine blk_far ?_ NB253_299.out _; (with_reducible repeat (first | refine blk_drewN ?_ _ | refine blk_drew ?_ | refine blk_alloc ?_ _)); refine blk_far ?_ NB253_299.out _; (with_reducible repeat (first | refine blk_drewN ?_ _ | refine blk_drew ?_ | refine blk_alloc ?_ _)); refine blk_far ?_ NB253_299.out _; (with_reducible repeat (first | refine blk_drewN ?_ _ | refine blk_drew ?_ | refine blk_alloc ?_ _)); refine blk_far ?_ NB253_299.out _; (with_reducible repeat (first | refine blk_drewN ?_ _ | refine blk_drew ?_ | refine blk_alloc ?_ _)); refine blk_far ?_ NB253_299.out _; (with_reducible repeat (first | refine blk_drewN ?_ _ | refine blk_drew ?_ | refine blk_alloc ?_ _)); refine blk_far ?_ NB253_299.out _; (with_reducible repeat (first | refine blk_drewN ?_ _ | refine blk_drew ?_ | refine blk_alloc ?_ _)); exact BK253.out) hb); have n10_ := Aside0.mk (blk_below (g := gb299) (o := .cells #[.bool t282, .bool t283, .int .i64 t284, .int .i64 t285, .slice Ao54 t286.length co54, .slice Ao55 t289.length co55, .int .i64 t292, .bool t293, .bool t294, .bool t295, .int .i64 t296, .int .i64 t297, .int .i64 t298] 70 (0, 0)) (by (with_reducible repeat (first | refine blk_drewN ?_ _ | refine blk_drew ?_ | refine blk_alloc ?_ _)); refine blk_put (cs := #[.bool t282, .bool t283, .int .i64 t284, .int .i64 t285, .slice Ao54 t286.length co54, .slice Ao55 t289.length co55, .int .i64 t292, .bool t293, .bool t294, .bool t295, .int .i64 t296, .int .i64 t297, .int .i64 0]) ?_ 12 _ rfl; (with_reducible repeat (first | refine blk_drewN ?_ _ | refine blk_drew ?_ | refine blk_alloc ?_ _)); refine blk_put (cs := #[.bool t282, .bool t283, .int .i64 t284, .int .i64 t285, .slice Ao54 t286.length co54, .slice Ao55 t289.length co55, .int .i64 t292, .bool t293, .bool t294, .bool t295, .int .i64 t296, .int .i64 0, .int .i64 0]) ?_ 11 _ rfl; (with_reducible repeat (first | refine blk_drewN ?_ _ | refine blk_drew ?_ | refine blk_alloc ?_ _)); refine blk_put (cs := #[.bool t282, .bool t283, .int .i64 t284, .int .i64 t285, .slice Ao54 t286.length co54, .slice Ao55 t289.length co55, .int .i64 t292, .bool t293, .bool t294, .bool t295, .int .i64 0, .int .i64 0, .int .i64 0]) ?_ 10 _ rfl; (with_reducible repeat (first | refine blk_drewN ?_ _ | refine blk_drew ?_ | refine blk_alloc ?_ _)); refine blk_put (cs := #[.bool t282, .bool t283, .int .i64 t284, .int .i64 t285, .slice Ao54 t286.length co54, .slice Ao55 t289.length co55, .int .i64 t292, .bool t293, .bool t294, .bool false, .int .i64 0, .int .i64 0, .int .i64 0]) ?_ 9 _ rfl; (with_reducible repeat (first | refine blk_drewN ?_ _ | refine blk_drew ?_ | refine blk_alloc ?_ _)); refine blk_put (cs := #[.bool t282, .bool t283, .int .i64 t284, .int .i64 t285, .slice Ao54 t286.length co54, .slice Ao55 t289.length co55, .int .i64 t292, .bool t293, .bool false, .bool false, .int .i64 0, .int .i64 0, .int .i64 0]) ?_ 8 _ rfl; (with_reducible repeat (first | refine blk_drewN ?_ _ | refine blk_drew ?_ | refine blk_alloc ?_ _)); refine blk_put (cs := #[.bool t282, .bool t283, .int .i64 t284, .int .i64 t285, .slice Ao54 t286.length co54, .slice Ao55 t289.length co55, .int .i64 t292, .bool false, .bool false, .bool false, .int .i64 0, .int .i64 0, .int .i64 0]) ?_ 7 _ rfl; (with_reducible repeat (first | refine blk_drewN ?_ _ | refine blk_drew ?_ | refine blk_alloc ?_ _)); refine blk_put (cs := #[.bool t282, .bool t283, .int .i64 t284, .int .i64 t285, .slice Ao54 t286.length co54, .slice Ao55 t289.length co55, .int .i64 0, .bool false, .bool false, .bool false, .int .i64 0, .int .i64 0, .int .i64 0]) ?_ 6 _ rfl; (with_reducible repeat (first | refine blk_drewN ?_ _ | refine blk_drew ?_ | refine blk_alloc ?_ _)); refine blk_put (cs := #[.bool t282, .bool t283, .int .i64 t284, .int .i64 t285, .slice Ao54 t286.length co54, .slice none 0 0, .int .i64 0, .bool false, .bool false, .bool false, .int .i64 0, .int .i64 0, .int .i64 0]) ?_ 5 _ rfl; (with_reducible repeat (first | refine blk_drewN ?_ _ | refine blk_drew ?_ | refine blk_alloc ?_ _)); refine blk_put (cs := #[.bool t282, .bool t283, .int .i64 t284, .int .i64 t285, .slice none 0 0, .slice none 0 0, .int .i64 0, .bool false, .bool false, .bool false, .int .i64 0, .int .i64 0, .int .i64 0]) ?_ 4 _ rfl; (with_reducible repeat (first | refine blk_drewN ?_ _ | refine blk_drew ?_ | refine blk_alloc ?_ _)); refine blk_put (cs := #[.bool t282, .bool t283, .int .i64 t284, .int .i64 0, .slice none 0 0, .slice none 0 0, .int .i64 0, .bool false, .bool false, .bool false, .int .i64 0, .int .i64 0, .int .i64 0]) ?_ 3 _ rfl; (with_reducible repeat (first | refine blk_drewN ?_ _ | refine blk_drew ?_ | refine blk_alloc ?_ _)); refine blk_put (cs := #[.bool t282, .bool t283, .int .i64 0, .int .i64 0, .slice none 0 0, .slice none 0 0, .int .i64 0, .bool false, .bool false, .bool false, .int .i64 0, .int .i64 0, .int .i64 0]) ?_ 2 _ rfl; (with_reducible repeat (first | refine blk_drewN ?_ _ | refine blk_drew ?_ | refine blk_alloc ?_ _)); refine blk_put (cs := #[.bool t282, .bool false, .int .i64 0, .int .i64 0, .slice none 0 0, .slice none 0 0, .int .i64 0, .bool false, .bool false, .bool false, .int .i64 0, .int .i64 0, .int .i64 0]) ?_ 1 _ rfl; (with_reducible repeat (first | refine blk_drewN ?_ _ | refine blk_drew ?_ | refine blk_alloc ?_ _)); refine blk_put (cs := #[.bool false, .bool false, .int .i64 0, .int .i64 0, .slice none 0 0, .slice none 0 0, .int .i64 0, .bool false, .bool false, .bool false, .int .i64 0, .int .i64 0, .int .i64 0]) ?_ 0 _ rfl; (with_reducible repeat (first | refine blk_drewN ?_ _ | refine blk_drew ?_ | refine blk_alloc ?_ _)); exact BK299.out) hb); have n11_ := bs HB hb; clear HO262; clear HO265; clear HO277; clear HO280; clear HO288; clear HO291; clear BK252; clear BK253; clear BK299; clear HB; have HO262 := n0_; have HO265 := n1_; have HO277 := n2_; have HO280 := n3_; have HO288 := n4_; have HO291 := n5_; have HO304 := n6_; have HO307 := n7_; have BK252 := n8_; have BK253 := n9_; have BK299 := n10_; have HB := n11_; clear n0_ n1_ n2_ n3_ n4_ n5_ n6_ n7_ n8_ n9_ n10_ n11_; (try clear hb); (try clear hb2); (try clear hk); (try clear hi); (try clear ho0); (try clear ho1)) | ((with_reducible refine gate_dst (N := 10) rfl ?_); refine box_event ?hg (N := 10) ?hd (cs := #[.int .i64 0, .int .i64 0, .slice none 0 0, .slice none 0 0]) (t := 24) ?hr ?_; (case hd => rfl); (case hg => rfl); (case hr => first | (go_simp; done) | (go_simp; rfl)); intro gb308 hg w58 hbox hb; have n0_ := Aside0.mk (Kd.R_below (by (with_reducible repeat (first | apply Kd.R_alloc | apply Kd.R_drewN | apply Kd.R_drew)); exact HO262.out) hb); have n1_ := Aside0.mk (Kd.R_below (by (with_reducible repeat (first | apply Kd.R_alloc | apply Kd.R_drewN | apply Kd.R_drew)); exact HO265.out) hb); have n2_ := Aside0.mk (Kd.R_below (by (with_reducible repeat (first | apply Kd.R_alloc | apply Kd.R_drewN | apply Kd.R_drew)); exact HO277.out) hb); have n3_ := Aside0.mk (Kd.R_below (by (with_reducible repeat (first | apply Kd.R_alloc | apply Kd.R_drewN | apply Kd.R_drew)); exact HO280.out) hb); have n4_ := Aside0.mk (Kd.R_below (by (with_reducible repeat (first | apply Kd.R_alloc | apply Kd.R_drewN | apply Kd.R_drew)); exact HO288.out) hb); have n5_ := Aside0.mk (Kd.R_below (by (with_reducible repeat (first | apply Kd.R_alloc | apply Kd.R_drewN | apply Kd.R_drew)); exact HO291.out) hb); have n6_ := Aside0.mk (Kd.R_below (by (with_reducible repeat (first | apply Kd.R_alloc | apply Kd.R_drewN | apply Kd.R_drew)); exact HO304.out) hb); have n7_ := Aside0.mk (Kd.R_below (by (with_reducible repeat (first | apply Kd.R_alloc | apply Kd.R_drewN | apply Kd.R_drew)); exact HO307.out) hb); have n8_ := Aside0.mk (blk_below (bx BK252.out) hb); have n9_ := Aside0.mk (blk_below (bx BK253.out) hb); have n10_ := Aside0.mk (blk_below (bx BK299.out) hb); have n11_ := bs HB hb; have n12_ := Aside0.mk (hbox); have n13_ := bz hg; have n14_ := bz hg; have n15_ := Aside0.mk ((by rw [hg]; exact Nat.ne_of_lt (blk_lt (bx BK252.out)) : gb252 ≠ gb308)); have n16_ := Aside0.mk ((by rw [hg]; exact Nat.ne_of_gt (blk_lt (bx BK252.out)) : gb308 ≠ gb252)); have n17_ := Aside0.mk ((by rw [hg]; exact Nat.ne_of_lt (blk_lt (bx BK253.out)) : gb253 ≠ gb308)); have n18_ := Aside0.mk ((by rw [hg]; exact Nat.ne_of_gt (blk_lt (bx BK253.out)) : gb308 ≠ gb253)); have n19_ := Aside0.mk ((by rw [hg]; exact Nat.ne_of_lt (blk_lt (bx BK299.out)) : gb299 ≠ gb308)); have n20_ := Aside0.mk ((by rw [hg]; exact Nat.ne_of_gt (blk_lt (bx BK299.out)) : gb308 ≠ gb299)); clear HO262; clear HO265; clear HO277; clear HO280; clear HO288; clear HO291; clear HO304; clear HO307; clear BK252; clear BK253; clear BK299; clear HB; have HO262 := n0_; have HO265 := n1_; have HO277 := n2_; have HO280 := n3_; have HO288 := n4_; have HO291 := n5_; have HO304 := n6_; have HO307 := n7_; have BK252 := n8_; have BK253 := n9_; have BK299 := n10_; have HB := n11_; have BK308 := n12_; have GW308 := n13_; have GE308 := n14_; have NB252_308 := n15_; have NB308_252 := n16_; have NB253_308 := n17_; have NB308_253 := n18_; have NB299_308 := n19_; have NB308_299 := n20_; clear n0_ n1_ n2_ n3_ n4_ n5_ n6_ n7_ n8_ n9_ n10_ n11_ n12_ n13_ n14_ n15_ n16_ n17_ n18_ n19_ n20_; clear hb hbox hg; have hnb59 := NB308_252.out; have hnc59 := NB252_308.out; have hnb60 := NB308_253.out; have hnc60 := NB253_308.out; have hnb61 := NB308_299.out; have hnc61 := NB299_308.out; have hcz62_0 : ∀ i, w58.cell? ⟨gb308, i, none⟩ = _ := blk_cell BK308.out; have hfz62_0 := blk_frozen BK308.out; obtain ⟨Ao63, co63, eo63⟩ := Kd.R_slice HO304.out; subst eo63; obtain ⟨Ao64, co64, eo64⟩ := Kd.R_slice HO307.out; subst eo64; have hcz65_0 : ∀ i, w58.cell? ⟨gb299, i, none⟩ = _ := blk_cell BK299.out; have hfz65_0 := blk_frozen BK299.out) | ((with_reducible refine gate_callee (f := 68) rfl ?_); refine goesL_ (some 35) rfl rfl Try.func68 (by kernel_rfl) rfl #[.agg #[.bool t282, .bool t283, .int .i64 t284, .int .i64 t285, .slice Ao54 t286.length co54, .slice Ao55 t289.length co55, .int .i64 t292, .bool t293, .bool t294, .bool t295, .int .i64 t296, .int .i64 t297, .int .i64 t298], .agg #[.int .i64 t300, .int .i64 t301, .slice Ao63 t302.length co63, .slice Ao64 t305.length co64], .int .i64 a2] rfl (by (try simp only [List.map_toArray, List.map_cons, List.map_nil]); first | done | rfl | (simp only [List.length_drop, List.length_take]; rfl)) ?_; (with_reducible refine (impl_AdmitFits.calls k t282 t283 t284 t285 _ _ t286 _ _ t289 t292 t293 t294 t295 t296 t297 t298 t300 t301 _ _ t302 _ _ t305 a2 t309 _ ?side1 ?side2 ?side3 ?side4 ?side5 ?side6 ?side7 ?side8 A25.out).mono ?_); (case side1 => refine (Kd.R_reads' (e := 3) (base := w.heap.size) (ok := fun k_ => ((((((some k_ ≠ (.slice Ao55 t289.length co55 : Value).ownBlock ∧ some k_ ≠ (.slice Ao43 t260.length co43 : Value).ownBlock) ∧ some k_ ≠ (.slice Ao44 t263.length co44 : Value).ownBlock) ∧ some k_ ≠ (.slice Ao45 t275.length co45 : Value).ownBlock) ∧ some k_ ≠ (.slice Ao46 t278.length co46 : Value).ownBlock) ∧ some k_ ≠ (.slice Ao63 t302.length co63 : Value).ownBlock) ∧ some k_ ≠ (.slice Ao64 t305.length co64 : Value).ownBlock)) (n := t286.length) (c := co54) ?_).2.2; exact (by (with_reducible repeat (first | apply Kd.R_alloc | apply Kd.R_drewN | apply Kd.R_drew)); exact (Kd.R_mono (Kd.R_far (p := ⟨gb308, 3, none⟩) (Kd.R_far (p := ⟨gb308, 2, none⟩) (Kd.R_far (p := ⟨gb308, 1, none⟩) (Kd.R_far (p := ⟨gb308, 0, none⟩) (Kd.R_types HO288.out BK308.out (by decide)) (fun _ hk => hk.2) (.int .i64 t300)) (fun _ hk => hk.2) (.int .i64 t301)) (fun _ hk => hk.2) (.slice Ao63 t302.length co63)) (fun _ hk => hk.2) (.slice Ao64 t305.length co64)) (fun _ h_ => h_.1)))); (case side2 => exact (Kd.R_reads' HO288.out).2.1); (case side3 => refine (Kd.R_reads' (e := 3) (base := w.heap.size) (ok := fun k_ => ((((((some k_ ≠ (.slice Ao54 t286.length co54 : Value).ownBlock ∧ some k_ ≠ (.slice Ao43 t260.length co43 : Value).ownBlock) ∧ some k_ ≠ (.slice Ao44 t263.length co44 : Value).ownBlock) ∧ some k_ ≠ (.slice Ao45 t275.length co45 : Value).ownBlock) ∧ some k_ ≠ (.slice Ao46 t278.length co46 : Value).ownBlock) ∧ some k_ ≠ (.slice Ao63 t302.length co63 : Value).ownBlock) ∧ some k_ ≠ (.slice Ao64 t305.length co64 : Value).ownBlock)) (n := t289.length) (c := co55) ?_).2.2; exact (by (with_reducible repeat (first | apply Kd.R_alloc | apply Kd.R_drewN | apply Kd.R_drew)); exact (Kd.R_mono (Kd.R_far (p := ⟨gb308, 3, none⟩) (Kd.R_far (p := ⟨gb308, 2, none⟩) (Kd.R_far (p := ⟨gb308, 1, none⟩) (Kd.R_far (p := ⟨gb308, 0, none⟩) (Kd.R_types HO291.out BK308.out (by decide)) (fun _ hk => hk.2) (.int .i64 t300)) (fun _ hk => hk.2) (.int .i64 t301)) (fun _ hk => hk.2) (.slice Ao63 t302.length co63)) (fun _ hk => hk.2) (.slice Ao64 t305.length co64)) (fun _ h_ => h_.1)))); (case side4 => exact (Kd.R_reads' HO291.out).2.1); (case side5 => refine (Kd.R_reads' (e := 3) (base := w.heap.size) (ok := fun k_ => ((((((some k_ ≠ (.slice Ao64 t305.length co64 : Value).ownBlock ∧ some k_ ≠ (.slice Ao43 t260.length co43 : Value).ownBlock) ∧ some k_ ≠ (.slice Ao44 t263.length co44 : Value).ownBlock) ∧ some k_ ≠ (.slice Ao45 t275.length co45 : Value).ownBlock) ∧ some k_ ≠ (.slice Ao46 t278.length co46 : Value).ownBlock) ∧ some k_ ≠ (.slice Ao54 t286.length co54 : Value).ownBlock) ∧ some k_ ≠ (.slice Ao55 t289.length co55 : Value).ownBlock)) (n := t302.length) (c := co63) ?_).2.2; exact (by (with_reducible repeat (first | apply Kd.R_alloc | apply Kd.R_drewN | apply Kd.R_drew)); exact (Kd.R_mono (Kd.R_far (p := ⟨gb308, 3, none⟩) (Kd.R_far (p := ⟨gb308, 2, none⟩) (Kd.R_far (p := ⟨gb308, 1, none⟩) (Kd.R_far (p := ⟨gb308, 0, none⟩) (Kd.R_types HO304.out BK308.out (by decide)) (fun _ hk => hk.2) (.int .i64 t300)) (fun _ hk => hk.2) (.int .i64 t301)) (fun _ hk => hk.2) (.slice Ao63 t302.length co63)) (fun _ hk => hk.2) (.slice Ao64 t305.length co64)) (fun _ h_ => h_.1)))); (case side6 => exact (Kd.R_reads' HO304.out).2.1); (case side7 => refine (Kd.R_reads' (e := 3) (base := w.heap.size) (ok := fun k_ => ((((((some k_ ≠ (.slice Ao63 t302.length co63 : Value).ownBlock ∧ some k_ ≠ (.slice Ao43 t260.length co43 : Value).ownBlock) ∧ some k_ ≠ (.slice Ao44 t263.length co44 : Value).ownBlock) ∧ some k_ ≠ (.slice Ao45 t275.length co45 : Value).ownBlock) ∧ some k_ ≠ (.slice Ao46 t278.length co46 : Value).ownBlock) ∧ some k_ ≠ (.slice Ao54 t286.length co54 : Value).ownBlock) ∧ some k_ ≠ (.slice Ao55 t289.length co55 : Value).ownBlock)) (n := t305.length) (c := co64) ?_).2.2; exact (by (with_reducible repeat (first | apply Kd.R_alloc | apply Kd.R_drewN | apply Kd.R_drew)); exact (Kd.R_mono (Kd.R_far (p := ⟨gb308, 3, none⟩) (Kd.R_far (p := ⟨gb308, 2, none⟩) (Kd.R_far (p := ⟨gb308, 1, none⟩) (Kd.R_far (p := ⟨gb308, 0, none⟩) (Kd.R_types HO307.out BK308.out (by decide)) (fun _ hk => hk.2) (.int .i64 t300)) (fun _ hk => hk.2) (.int .i64 t301)) (fun _ hk => hk.2) (.slice Ao63 t302.length co63)) (fun _ hk => hk.2) (.slice Ao64 t305.length co64)) (fun _ h_ => h_.1)))); (case side8 => exact (Kd.R_reads' HO307.out).2.1); rintro e w66 ⟨rfl, hb⟩; refine ⟨_, rfl, ?_⟩; have n0_ := Aside0.mk (Kd.R_below (by (with_reducible repeat (first | apply Kd.R_alloc | apply Kd.R_drewN | apply Kd.R_drew)); exact (Kd.R_mono (Kd.R_far (p := ⟨gb308, 3, none⟩) (Kd.R_far (p := ⟨gb308, 2, none⟩) (Kd.R_far (p := ⟨gb308, 1, none⟩) (Kd.R_far (p := ⟨gb308, 0, none⟩) (Kd.R_types HO262.out BK308.out (by decide)) (fun _ hk => hk.2) (.int .i64 t300)) (fun _ hk => hk.2) (.int .i64 t301)) (fun _ hk => hk.2) (.slice Ao63 t302.length co63)) (fun _ hk => hk.2) (.slice Ao64 t305.length co64)) (fun _ h_ => h_.1))) hb); have n1_ := Aside0.mk (Kd.R_below (by (with_reducible repeat (first | apply Kd.R_alloc | apply Kd.R_drewN | apply Kd.R_drew)); exact (Kd.R_mono (Kd.R_far (p := ⟨gb308, 3, none⟩) (Kd.R_far (p := ⟨gb308, 2, none⟩) (Kd.R_far (p := ⟨gb308, 1, none⟩) (Kd.R_far (p := ⟨gb308, 0, none⟩) (Kd.R_types HO265.out BK308.out (by decide)) (fun _ hk => hk.2) (.int .i64 t300)) (fun _ hk => hk.2) (.int .i64 t301)) (fun _ hk => hk.2) (.slice Ao63 t302.length co63)) (fun _ hk => hk.2) (.slice Ao64 t305.length co64)) (fun _ h_ => h_.1))) hb); have n2_ := Aside0.mk (Kd.R_below (by (with_reducible repeat (first | apply Kd.R_alloc | apply Kd.R_drewN | apply Kd.R_drew)); exact (Kd.R_mono (Kd.R_far (p := ⟨gb308, 3, none⟩) (Kd.R_far (p := ⟨gb308, 2, none⟩) (Kd.R_far (p := ⟨gb308, 1, none⟩) (Kd.R_far (p := ⟨gb308, 0, none⟩) (Kd.R_types HO277.out BK308.out (by decide)) (fun _ hk => hk.2) (.int .i64 t300)) (fun _ hk => hk.2) (.int .i64 t301)) (fun _ hk => hk.2) (.slice Ao63 t302.length co63)) (fun _ hk => hk.2) (.slice Ao64 t305.length co64)) (fun _ h_ => h_.1))) hb); have n3_ := Aside0.mk (Kd.R_below (by (with_reducible repeat (first | apply Kd.R_alloc | apply Kd.R_drewN | apply Kd.R_drew)); exact (Kd.R_mono (Kd.R_far (p := ⟨gb308, 3, none⟩) (Kd.R_far (p := ⟨gb308, 2, none⟩) (Kd.R_far (p := ⟨gb308, 1, none⟩) (Kd.R_far (p := ⟨gb308, 0, none⟩) (Kd.R_types HO280.out BK308.out (by decide)) (fun _ hk => hk.2) (.int .i64 t300)) (fun _ hk => hk.2) (.int .i64 t301)) (fun _ hk => hk.2) (.slice Ao63 t302.length co63)) (fun _ hk => hk.2) (.slice Ao64 t305.length co64)) (fun _ h_ => h_.1))) hb); have n4_ := Aside0.mk (Kd.R_below (by (with_reducible repeat (first | apply Kd.R_alloc | apply Kd.R_drewN | apply Kd.R_drew)); exact (Kd.R_mono (Kd.R_far (p := ⟨gb308, 3, none⟩) (Kd.R_far (p := ⟨gb308, 2, none⟩) (Kd.R_far (p := ⟨gb308, 1, none⟩) (Kd.R_far (p := ⟨gb308, 0, none⟩) (Kd.R_types HO288.out BK308.out (by decide)) (fun _ hk => hk.2) (.int .i64 t300)) (fun _ hk => hk.2) (.int .i64 t301)) (fun _ hk => hk.2) (.slice Ao63 t302.length co63)) (fun _ hk => hk.2) (.slice Ao64 t305.length co64)) (fun _ h_ => h_.1))) hb); have n5_ := Aside0.mk (Kd.R_below (by (with_reducible repeat (first | apply Kd.R_alloc | apply Kd.R_drewN | apply Kd.R_drew)); exact (Kd.R_mono (Kd.R_far (p := ⟨gb308, 3, none⟩) (Kd.R_far (p := ⟨gb308, 2, none⟩) (Kd.R_far (p := ⟨gb308, 1, none⟩) (Kd.R_far (p := ⟨gb308, 0, none⟩) (Kd.R_types HO291.out BK308.out (by decide)) (fun _ hk => hk.2) (.int .i64 t300)) (fun _ hk => hk.2) (.int .i64 t301)) (fun _ hk => hk.2) (.slice Ao63 t302.length co63)) (fun _ hk => hk.2) (.slice Ao64 t305.length co64)) (fun _ h_ => h_.1))) hb); have n6_ := Aside0.mk (Kd.R_below (by (with_reducible repeat (first | apply Kd.R_alloc | apply Kd.R_drewN | apply Kd.R_drew)); exact (Kd.R_mono (Kd.R_far (p := ⟨gb308, 3, none⟩) (Kd.R_far (p := ⟨gb308, 2, none⟩) (Kd.R_far (p := ⟨gb308, 1, none⟩) (Kd.R_far (p := ⟨gb308, 0, none⟩) (Kd.R_types HO304.out BK308.out (by decide)) (fun _ hk => hk.2) (.int .i64 t300)) (fun _ hk => hk.2) (.int .i64 t301)) (fun _ hk => hk.2) (.slice Ao63 t302.length co63)) (fun _ hk => hk.2) (.slice Ao64 t305.length co64)) (fun _ h_ => h_.1))) hb); have n7_ := Aside0.mk (Kd.R_below (by (with_reducible repeat (first | apply Kd.R_alloc | apply Kd.R_drewN | apply Kd.R_drew)); exact (Kd.R_mono (Kd.R_far (p := ⟨gb308, 3, none⟩) (Kd.R_far (p := ⟨gb308, 2, none⟩) (Kd.R_far (p := ⟨gb308, 1, none⟩) (Kd.R_far (p := ⟨gb308, 0, none⟩) (Kd.R_types HO307.out BK308.out (by decide)) (fun _ hk => hk.2) (.int .i64 t300)) (fun _ hk => hk.2) (.int .i64 t301)) (fun _ hk => hk.2) (.slice Ao63 t302.length co63)) (fun _ hk => hk.2) (.slice Ao64 t305.length co64)) (fun _ h_ => h_.1))) hb); have n8_ := Aside0.mk (blk_below (g := gb252) (o := .cells #[.bool a0_0, .bool a0_1, .int .i64 a0_2, .int .i64 a0_3, .slice A0_4 l0_4.length c0_4, .slice A0_5 l0_5.length c0_5, .int .i64 a0_6, .bool a0_7, .bool a0_8, .bool a0_9, .int .i64 a0_10, .int .i64 a0_11, .int .i64 a0_12] 66 (0, 0)) (by (with_reducible repeat (first | refine blk_drewN ?_ _ | refine blk_drew ?_ | refine blk_alloc ?_ _)); refine blk_far ?_ NB252_308.out _; (with_reducible repeat (first | refine blk_drewN ?_ _ | refine blk_drew ?_ | refine blk_alloc ?_ _)); refine blk_far ?_ NB252_308.out _; (with_reducible repeat (first | refine blk_drewN ?_ _ | refine blk_drew ?_ | refine blk_alloc ?_ _)); refine blk_far ?_ NB252_308.out _; (with_reducible repeat (first | refine blk_drewN ?_ _ | refine blk_drew ?_ | refine blk_alloc ?_ _)); refine blk_far ?_ NB252_308.out _; (with_reducible repeat (first | refine blk_drewN ?_ _ | refine blk_drew ?_ | refine blk_alloc ?_ _)); exact BK252.out) hb); have n9_ := Aside0.mk (blk_below (g := gb253) (o := .cells #[.int .i64 a1_0, .int .i64 a1_1, .slice A1_2 l1_2.length c1_2, .slice A1_3 l1_3.length c1_3] 64 (0, 0)) (by (with_reducible repeat (first | refine blk_drewN ?_ _ | refine blk_drew ?_ | refine blk_alloc ?_ _)); refine blk_far ?_ NB253_308.out _; (with_reducible repeat (first | refine blk_drewN ?_ _ | refine blk_drew ?_ | refine blk_alloc ?_ _)); refine blk_far ?_ NB253_308.out _; (with_reducible repeat (first | refine blk_drewN ?_ _ | refine blk_drew ?_ | refine blk_alloc ?_ _)); refine blk_far ?_ NB253_308.out _; (with_reducible repeat (first | refine blk_drewN ?_ _ | refine blk_drew ?_ | refine blk_alloc ?_ _)); refine blk_far ?_ NB253_308.out _; (with_reducible repeat (first | refine blk_drewN ?_ _ | refine blk_drew ?_ | refine blk_alloc ?_ _)); exact BK253.out) hb); have n10_ := Aside0.mk (blk_below (g := gb299) (o := .cells #[.bool t282, .bool t283, .int .i64 t284, .int .i64 t285, .slice Ao54 t286.length co54, .slice Ao55 t289.length co55, .int .i64 t292, .bool t293, .bool t294, .bool t295, .int .i64 t296, .int .i64 t297, .int .i64 t298] 70 (0, 0)) (by (with_reducible repeat (first | refine blk_drewN ?_ _ | refine blk_drew ?_ | refine blk_alloc ?_ _)); refine blk_far ?_ NB299_308.out _; (with_reducible repeat (first | refine blk_drewN ?_ _ | refine blk_drew ?_ | refine blk_alloc ?_ _)); refine blk_far ?_ NB299_308.out _; (with_reducible repeat (first | refine blk_drewN ?_ _ | refine blk_drew ?_ | refine blk_alloc ?_ _)); refine blk_far ?_ NB299_308.out _; (with_reducible repeat (first | refine blk_drewN ?_ _ | refine blk_drew ?_ | refine blk_alloc ?_ _)); refine blk_far ?_ NB299_308.out _; (with_reducible repeat (first | refine blk_drewN ?_ _ | refine blk_drew ?_ | refine blk_alloc ?_ _)); exact BK299.out) hb); have n11_ := Aside0.mk (blk_below (g := gb308) (o := .cells #[.int .i64 t300, .int .i64 t301, .slice Ao63 t302.length co63, .slice Ao64 t305.length co64] 24 (0, 0)) (by (with_reducible repeat (first | refine blk_drewN ?_ _ | refine blk_drew ?_ | refine blk_alloc ?_ _)); refine blk_put (cs := #[.int .i64 t300, .int .i64 t301, .slice Ao63 t302.length co63, .slice none 0 0]) ?_ 3 _ rfl; (with_reducible repeat (first | refine blk_drewN ?_ _ | refine blk_drew ?_ | refine blk_alloc ?_ _)); refine blk_put (cs := #[.int .i64 t300, .int .i64 t301, .slice none 0 0, .slice none 0 0]) ?_ 2 _ rfl; (with_reducible repeat (first | refine blk_drewN ?_ _ | refine blk_drew ?_ | refine blk_alloc ?_ _)); refine blk_put (cs := #[.int .i64 t300, .int .i64 0, .slice none 0 0, .slice none 0 0]) ?_ 1 _ rfl; (with_reducible repeat (first | refine blk_drewN ?_ _ | refine blk_drew ?_ | refine blk_alloc ?_ _)); refine blk_put (cs := #[.int .i64 0, .int .i64 0, .slice none 0 0, .slice none 0 0]) ?_ 0 _ rfl; (with_reducible repeat (first | refine blk_drewN ?_ _ | refine blk_drew ?_ | refine blk_alloc ?_ _)); exact BK308.out) hb); have n12_ := bs HB hb; clear HO262; clear HO265; clear HO277; clear HO280; clear HO288; clear HO291; clear HO304; clear HO307; clear BK252; clear BK253; clear BK299; clear BK308; clear HB; have HO262 := n0_; have HO265 := n1_; have HO277 := n2_; have HO280 := n3_; have HO288 := n4_; have HO291 := n5_; have HO304 := n6_; have HO307 := n7_; have BK252 := n8_; have BK253 := n9_; have BK299 := n10_; have BK308 := n11_; have HB := n12_; clear n0_ n1_ n2_ n3_ n4_ n5_ n6_ n7_ n8_ n9_ n10_ n11_ n12_; (try clear hb); (try clear hb2); (try clear hk); (try clear hi)))
            have n0_ := Aside0.mk (Kd.R_drew HO262.out)
            have n1_ := Aside0.mk (Kd.R_drew HO265.out)
            have n2_ := Aside0.mk (Kd.R_drew HO277.out)
            have n3_ := Aside0.mk (Kd.R_drew HO280.out)
            have n4_ := Aside0.mk (Kd.R_drew HO288.out)
            have n5_ := Aside0.mk (Kd.R_drew HO291.out)
            have n6_ := Aside0.mk (Kd.R_drew HO304.out)
            have n7_ := Aside0.mk (Kd.R_drew HO307.out)
            have n8_ := Aside0.mk (blk_drew BK252.out)
            have n9_ := Aside0.mk (blk_drew BK253.out)
            have n10_ := Aside0.mk (blk_drew BK299.out)
            have n11_ := Aside0.mk (blk_drew BK308.out)
            have n12_ := Aside0.mk (below_drew1 HB.out)
            clear HO262
            clear HO265
            clear HO277
            clear HO280
            clear HO288
            clear HO291
            clear HO304
            clear HO307
            clear BK252
            clear BK253
            clear BK299
            clear BK308
            clear HB
            have HO262 := n0_
            have HO265 := n1_
            have HO277 := n2_
            have HO280 := n3_
            have HO288 := n4_
            have HO291 := n5_
            have HO304 := n6_
            have HO307 := n7_
            have BK252 := n8_
            have BK253 := n9_
            have BK299 := n10_
            have BK308 := n11_
            have HB := n12_
            clear n0_ n1_ n2_ n3_ n4_ n5_ n6_ n7_ n8_ n9_ n10_ n11_ n12_
            refine start_ (n := 5) (S := fun w' => w'.cell? ⟨gb299, 0, none⟩ = some (.bool t282) ∧ w'.cell? ⟨gb299, 1, none⟩ = some (.bool t283) ∧ w'.cell? ⟨gb299, 2, none⟩ = some (.int .i64 t284) ∧ w'.cell? ⟨gb299, 3, none⟩ = some (.int .i64 t285) ∧ w'.cell? ⟨gb299, 4, none⟩ = some (.slice Ao54 t286.length co54) ∧ w'.cell? ⟨gb299, 5, none⟩ = some (.slice Ao55 t289.length co55) ∧ w'.cell? ⟨gb299, 6, none⟩ = some (.int .i64 t292) ∧ w'.cell? ⟨gb299, 7, none⟩ = some (.bool t293) ∧ w'.cell? ⟨gb299, 8, none⟩ = some (.bool t294) ∧ w'.cell? ⟨gb299, 9, none⟩ = some (.bool t295) ∧ w'.cell? ⟨gb299, 10, none⟩ = some (.int .i64 t296) ∧ w'.cell? ⟨gb299, 11, none⟩ = some (.int .i64 t297) ∧ w'.cell? ⟨gb299, 12, none⟩ = some (.int .i64 t298) ∧ w'.cell? ⟨gb252, 0, none⟩ = some (.bool a0_0) ∧ w'.cell? ⟨gb252, 1, none⟩ = some (.bool a0_1) ∧ w'.cell? ⟨gb252, 2, none⟩ = some (.int .i64 a0_2) ∧ w'.cell? ⟨gb252, 3, none⟩ = some (.int .i64 a0_3) ∧ w'.cell? ⟨gb252, 4, none⟩ = some (.slice A0_4 l0_4.length c0_4) ∧ w'.cell? ⟨gb252, 5, none⟩ = some (.slice A0_5 l0_5.length c0_5) ∧ w'.cell? ⟨gb252, 6, none⟩ = some (.int .i64 a0_6) ∧ w'.cell? ⟨gb252, 7, none⟩ = some (.bool a0_7) ∧ w'.cell? ⟨gb252, 8, none⟩ = some (.bool a0_8) ∧ w'.cell? ⟨gb252, 9, none⟩ = some (.bool a0_9) ∧ w'.cell? ⟨gb252, 10, none⟩ = some (.int .i64 a0_10) ∧ w'.cell? ⟨gb252, 11, none⟩ = some (.int .i64 a0_11) ∧ w'.cell? ⟨gb252, 12, none⟩ = some (.int .i64 a0_12)) (ds := []) #[false, false, false, false, false] (by kernel_rfl) rfl rfl ⟨(blk_cell BK299.out 0).trans rfl, (blk_cell BK299.out 1).trans rfl, (blk_cell BK299.out 2).trans rfl, (blk_cell BK299.out 3).trans rfl, (blk_cell BK299.out 4).trans rfl, (blk_cell BK299.out 5).trans rfl, (blk_cell BK299.out 6).trans rfl, (blk_cell BK299.out 7).trans rfl, (blk_cell BK299.out 8).trans rfl, (blk_cell BK299.out 9).trans rfl, (blk_cell BK299.out 10).trans rfl, (blk_cell BK299.out 11).trans rfl, (blk_cell BK299.out 12).trans rfl, (blk_cell BK252.out 0).trans rfl, (blk_cell BK252.out 1).trans rfl, (blk_cell BK252.out 2).trans rfl, (blk_cell BK252.out 3).trans rfl, (blk_cell BK252.out 4).trans rfl, (blk_cell BK252.out 5).trans rfl, (blk_cell BK252.out 6).trans rfl, (blk_cell BK252.out 7).trans rfl, (blk_cell BK252.out 8).trans rfl, (blk_cell BK252.out 9).trans rfl, (blk_cell BK252.out 10).trans rfl, (blk_cell BK252.out 11).trans rfl, (blk_cell BK252.out 12).trans rfl⟩ (fun hHeld => ?_)
            generalize w66.drew = w67 at HO262 HO265 HO277 HO280 HO288 HO291 HO304 HO307 BK252 BK253 BK299 BK308 HB hHeld ⊢
            refine take_ (i := 0) (N := some 39) (v := ?_) (a' := ?_) #[true, false, false, false, false] rfl rfl (by kernel_rfl) (fun _ _ _ h => h) (Or.inl ⟨by rfl, ?_⟩) hHeld ?_ ?_
            rotate_left
            · rintro w' ⟨s0, s1, s2, s3, s4, s5, s6, s7, s8, s9, s10, s11, s12, s13, s14, s15, s16, s17, s18, s19, s20, s21, s22, s23, s24, s25⟩
              go_simp
              with_reducible rfl
            rotate_left
            · simp only [Act.put, List.setIfInBounds_toArray, List.set_cons_zero, List.set_cons_succ, i64_w, i32_w]
              rfl
            refine take_ (i := 1) (N := some 40) (v := ?_) (a' := ?_) #[true, true, false, false, false] rfl rfl (by kernel_rfl) (fun _ _ _ h => h) (Or.inl ⟨by rfl, ?_⟩) hHeld ?_ ?_
            rotate_left
            · rintro w' ⟨s0, s1, s2, s3, s4, s5, s6, s7, s8, s9, s10, s11, s12, s13, s14, s15, s16, s17, s18, s19, s20, s21, s22, s23, s24, s25⟩
              go_simp
              with_reducible rfl
            rotate_left
            · simp only [Act.put, List.setIfInBounds_toArray, List.set_cons_zero, List.set_cons_succ, i64_w, i32_w]
              rfl
            refine one_ (i := 2) (N := some 41) #[true, true, true, false, false] rfl rfl (by kernel_rfl) (by decide) (fun K hK => ?_)
            refine goes_ Try.func38 (by kernel_rfl) rfl #[.agg #[.bool a0_0, .bool a0_1, .int .i64 a0_2, .int .i64 a0_3, .slice A0_4 l0_4.length c0_4, .slice A0_5 l0_5.length c0_5, .int .i64 a0_6, .bool a0_7, .bool a0_8, .bool a0_9, .int .i64 a0_10, .int .i64 a0_11, .int .i64 a0_12]] (by rfl) rfl rfl (by (try simp only [List.map_toArray, List.map_cons, List.map_nil]); first | done | rfl | (simp only [List.length_drop, List.length_take]; rfl)) ?_
            with_reducible refine (laws_toAdmit.calls k a0_0 a0_1 a0_2 a0_3 _ _ l0_4 _ _ l0_5 a0_6 a0_7 a0_8 a0_9 a0_10 a0_11 a0_12 t310 t311 t312 t313 t314 t317 t320 t321 t322 t323 t324 t325 t326 _ ?side1 ?side2 ?side3 ?side4 A27.out).mono ?_
            (case side1 => repeat (first | exact (Kd.C_below HR0_4.out HB.out) | (with_reducible refine Kd.C_alloc ?_ _) | (with_reducible refine Kd.C_drewN ?_ _) | (with_reducible refine Kd.C_drew ?_)))
            (case side2 => exact HC0_4.out)
            (case side3 => repeat (first | exact (Kd.C_below HR0_5.out HB.out) | (with_reducible refine Kd.C_alloc ?_ _) | (with_reducible refine Kd.C_drewN ?_ _) | (with_reducible refine Kd.C_drew ?_)))
            (case side4 => exact HC0_5.out)
            rintro e w68 ⟨v315, v318, rfl, ho0, ho1, hb⟩
            refine ⟨_, rfl, ?_⟩
            have n0_ := Aside0.mk (Kd.R_mono (Kd.R_told (Kd.R_told (Kd.R_old (by (with_reducible repeat (first | apply Kd.R_alloc | apply Kd.R_drewN | apply Kd.R_drew)); exact HO262.out) hb) (Kd.R_base ho0)) (Kd.R_base ho1)) (fun _ h_ => h_.1))
            have n1_ := Aside0.mk (Kd.R_mono (Kd.R_told (Kd.R_told (Kd.R_old (by (with_reducible repeat (first | apply Kd.R_alloc | apply Kd.R_drewN | apply Kd.R_drew)); exact HO265.out) hb) (Kd.R_base ho0)) (Kd.R_base ho1)) (fun _ h_ => h_.1))
            have n2_ := Aside0.mk (Kd.R_mono (Kd.R_told (Kd.R_told (Kd.R_old (by (with_reducible repeat (first | apply Kd.R_alloc | apply Kd.R_drewN | apply Kd.R_drew)); exact HO277.out) hb) (Kd.R_base ho0)) (Kd.R_base ho1)) (fun _ h_ => h_.1))
            have n3_ := Aside0.mk (Kd.R_mono (Kd.R_told (Kd.R_told (Kd.R_old (by (with_reducible repeat (first | apply Kd.R_alloc | apply Kd.R_drewN | apply Kd.R_drew)); exact HO280.out) hb) (Kd.R_base ho0)) (Kd.R_base ho1)) (fun _ h_ => h_.1))
            have n4_ := Aside0.mk (Kd.R_mono (Kd.R_told (Kd.R_told (Kd.R_old (by (with_reducible repeat (first | apply Kd.R_alloc | apply Kd.R_drewN | apply Kd.R_drew)); exact HO288.out) hb) (Kd.R_base ho0)) (Kd.R_base ho1)) (fun _ h_ => h_.1))
            have n5_ := Aside0.mk (Kd.R_mono (Kd.R_told (Kd.R_told (Kd.R_old (by (with_reducible repeat (first | apply Kd.R_alloc | apply Kd.R_drewN | apply Kd.R_drew)); exact HO291.out) hb) (Kd.R_base ho0)) (Kd.R_base ho1)) (fun _ h_ => h_.1))
            have n6_ := Aside0.mk (Kd.R_mono (Kd.R_told (Kd.R_told (Kd.R_old (by (with_reducible repeat (first | apply Kd.R_alloc | apply Kd.R_drewN | apply Kd.R_drew)); exact HO304.out) hb) (Kd.R_base ho0)) (Kd.R_base ho1)) (fun _ h_ => h_.1))
            have n7_ := Aside0.mk (Kd.R_mono (Kd.R_told (Kd.R_told (Kd.R_old (by (with_reducible repeat (first | apply Kd.R_alloc | apply Kd.R_drewN | apply Kd.R_drew)); exact HO307.out) hb) (Kd.R_base ho0)) (Kd.R_base ho1)) (fun _ h_ => h_.1))
            have n8_ := Aside0.mk (Kd.R_lower (Kd.R_new' (Kd.R_new' (Kd.R_new' (Kd.R_new' (Kd.R_new' (Kd.R_new' (Kd.R_new' (Kd.R_new' ho0 (Kd.R_lt (by (with_reducible repeat (first | apply Kd.R_alloc | apply Kd.R_drewN | apply Kd.R_drew)); exact HO262.out))) (Kd.R_lt (by (with_reducible repeat (first | apply Kd.R_alloc | apply Kd.R_drewN | apply Kd.R_drew)); exact HO265.out))) (Kd.R_lt (by (with_reducible repeat (first | apply Kd.R_alloc | apply Kd.R_drewN | apply Kd.R_drew)); exact HO277.out))) (Kd.R_lt (by (with_reducible repeat (first | apply Kd.R_alloc | apply Kd.R_drewN | apply Kd.R_drew)); exact HO280.out))) (Kd.R_lt (by (with_reducible repeat (first | apply Kd.R_alloc | apply Kd.R_drewN | apply Kd.R_drew)); exact HO288.out))) (Kd.R_lt (by (with_reducible repeat (first | apply Kd.R_alloc | apply Kd.R_drewN | apply Kd.R_drew)); exact HO291.out))) (Kd.R_lt (by (with_reducible repeat (first | apply Kd.R_alloc | apply Kd.R_drewN | apply Kd.R_drew)); exact HO304.out))) (Kd.R_lt (by (with_reducible repeat (first | apply Kd.R_alloc | apply Kd.R_drewN | apply Kd.R_drew)); exact HO307.out))) (below_size bl))
            have n9_ := Aside0.mk (Kd.R_lower (Kd.R_new' (Kd.R_new' (Kd.R_new' (Kd.R_new' (Kd.R_new' (Kd.R_new' (Kd.R_new' (Kd.R_new' ho1 (Kd.R_lt (by (with_reducible repeat (first | apply Kd.R_alloc | apply Kd.R_drewN | apply Kd.R_drew)); exact HO262.out))) (Kd.R_lt (by (with_reducible repeat (first | apply Kd.R_alloc | apply Kd.R_drewN | apply Kd.R_drew)); exact HO265.out))) (Kd.R_lt (by (with_reducible repeat (first | apply Kd.R_alloc | apply Kd.R_drewN | apply Kd.R_drew)); exact HO277.out))) (Kd.R_lt (by (with_reducible repeat (first | apply Kd.R_alloc | apply Kd.R_drewN | apply Kd.R_drew)); exact HO280.out))) (Kd.R_lt (by (with_reducible repeat (first | apply Kd.R_alloc | apply Kd.R_drewN | apply Kd.R_drew)); exact HO288.out))) (Kd.R_lt (by (with_reducible repeat (first | apply Kd.R_alloc | apply Kd.R_drewN | apply Kd.R_drew)); exact HO291.out))) (Kd.R_lt (by (with_reducible repeat (first | apply Kd.R_alloc | apply Kd.R_drewN | apply Kd.R_drew)); exact HO304.out))) (Kd.R_lt (by (with_reducible repeat (first | apply Kd.R_alloc | apply Kd.R_drewN | apply Kd.R_drew)); exact HO307.out))) (below_size bl))
            have n10_ := Aside0.mk (blk_below (bx BK252.out) hb)
            have n11_ := Aside0.mk (blk_below (bx BK253.out) hb)
            have n12_ := Aside0.mk (blk_below (bx BK299.out) hb)
            have n13_ := Aside0.mk (blk_below (bx BK308.out) hb)
            have n14_ := bs HB hb
            clear HO262
            clear HO265
            clear HO277
            clear HO280
            clear HO288
            clear HO291
            clear HO304
            clear HO307
            clear BK252
            clear BK253
            clear BK299
            clear BK308
            clear HB
            have HO262 := n0_
            have HO265 := n1_
            have HO277 := n2_
            have HO280 := n3_
            have HO288 := n4_
            have HO291 := n5_
            have HO304 := n6_
            have HO307 := n7_
            have HO316 := n8_
            have HO319 := n9_
            have BK252 := n10_
            have BK253 := n11_
            have BK299 := n12_
            have BK308 := n13_
            have HB := n14_
            clear n0_ n1_ n2_ n3_ n4_ n5_ n6_ n7_ n8_ n9_ n10_ n11_ n12_ n13_ n14_
            (try clear hb)
            (try clear hb2)
            (try clear hk)
            (try clear hi)
            (try clear ho0)
            (try clear ho1)
            obtain ⟨Ao69, co69, eo69⟩ := Kd.R_slice HO316.out
            (first | subst eo69 | (injection eo69 with f1_ f2_ f3_; have f4_ := f1_.symm; have f5_ := f3_.symm; clear f1_ f2_ f3_; subst f4_; subst f5_))
            obtain ⟨Ao70, co70, eo70⟩ := Kd.R_slice HO319.out
            (first | subst eo70 | (injection eo70 with f1_ f2_ f3_; have f4_ := f1_.symm; have f5_ := f3_.symm; clear f1_ f2_ f3_; subst f4_; subst f5_))
            refine hK.out _ _ ⟨(blk_cell BK299.out 0).trans rfl, (blk_cell BK299.out 1).trans rfl, (blk_cell BK299.out 2).trans rfl, (blk_cell BK299.out 3).trans rfl, (blk_cell BK299.out 4).trans rfl, (blk_cell BK299.out 5).trans rfl, (blk_cell BK299.out 6).trans rfl, (blk_cell BK299.out 7).trans rfl, (blk_cell BK299.out 8).trans rfl, (blk_cell BK299.out 9).trans rfl, (blk_cell BK299.out 10).trans rfl, (blk_cell BK299.out 11).trans rfl, (blk_cell BK299.out 12).trans rfl, (blk_cell BK252.out 0).trans rfl, (blk_cell BK252.out 1).trans rfl, (blk_cell BK252.out 2).trans rfl, (blk_cell BK252.out 3).trans rfl, (blk_cell BK252.out 4).trans rfl, (blk_cell BK252.out 5).trans rfl, (blk_cell BK252.out 6).trans rfl, (blk_cell BK252.out 7).trans rfl, (blk_cell BK252.out 8).trans rfl, (blk_cell BK252.out 9).trans rfl, (blk_cell BK252.out 10).trans rfl, (blk_cell BK252.out 11).trans rfl, (blk_cell BK252.out 12).trans rfl⟩ (fun hHeld => ?_)
            clear hK K
            refine norm_ (a' := ?_) ?_ ?_
            rotate_left
            · show Act.put _ (some 41) _ = _
              simp only [Act.put, List.setIfInBounds_toArray, List.set_cons_zero, List.set_cons_succ, i64_w, i32_w]
              rfl
            refine one_ (i := 3) (N := some 42) #[true, true, true, true, false] rfl rfl (by kernel_rfl) (by decide) (fun K hK => ?_)
            refine goes_ Try.func40 (by kernel_rfl) rfl #[.agg #[.bool t282, .bool t283, .int .i64 t284, .int .i64 t285, .slice Ao54 t286.length co54, .slice Ao55 t289.length co55, .int .i64 t292, .bool t293, .bool t294, .bool t295, .int .i64 t296, .int .i64 t297, .int .i64 t298], .agg #[.bool t310, .bool t311, .int .i64 t312, .int .i64 t313, .slice Ao69 t314.length co69, .slice Ao70 t317.length co70, .int .i64 t320, .bool t321, .bool t322, .bool t323, .int .i64 t324, .int .i64 t325, .int .i64 t326]] (by rfl) rfl rfl (by (try simp only [List.map_toArray, List.map_cons, List.map_nil]); first | done | rfl | (simp only [List.length_drop, List.length_take]; rfl)) ?_
            with_reducible refine (laws_eqAdmit.calls k t282 t283 t284 t285 _ _ t286 _ _ t289 t292 t293 t294 t295 t296 t297 t298 t310 t311 t312 t313 _ _ t314 _ _ t317 t320 t321 t322 t323 t324 t325 t326 true _ ?side1 ?side2 ?side3 ?side4 ?side5 ?side6 ?side7 ?side8 A28.out).mono ?_
            (case side1 => repeat (first | exact (Kd.R_reads' HO288.out).2.2 | (with_reducible refine Kd.C_alloc ?_ _) | (with_reducible refine Kd.C_drewN ?_ _) | (with_reducible refine Kd.C_drew ?_)))
            (case side2 => exact (Kd.R_reads' HO288.out).2.1)
            (case side3 => repeat (first | exact (Kd.R_reads' HO291.out).2.2 | (with_reducible refine Kd.C_alloc ?_ _) | (with_reducible refine Kd.C_drewN ?_ _) | (with_reducible refine Kd.C_drew ?_)))
            (case side4 => exact (Kd.R_reads' HO291.out).2.1)
            (case side5 => repeat (first | exact (Kd.R_reads' HO316.out).2.2 | (with_reducible refine Kd.C_alloc ?_ _) | (with_reducible refine Kd.C_drewN ?_ _) | (with_reducible refine Kd.C_drew ?_)))
            (case side6 => exact (Kd.R_reads' HO316.out).2.1)
            (case side7 => repeat (first | exact (Kd.R_reads' HO319.out).2.2 | (with_reducible refine Kd.C_alloc ?_ _) | (with_reducible refine Kd.C_drewN ?_ _) | (with_reducible refine Kd.C_drew ?_)))
            (case side8 => exact (Kd.R_reads' HO319.out).2.1)
            rintro e w71 ⟨rfl, hb⟩
            refine ⟨_, rfl, ?_⟩
            have n0_ := Aside0.mk (Kd.R_below (by (with_reducible repeat (first | apply Kd.R_alloc | apply Kd.R_drewN | apply Kd.R_drew)); exact HO262.out) hb)
            have n1_ := Aside0.mk (Kd.R_below (by (with_reducible repeat (first | apply Kd.R_alloc | apply Kd.R_drewN | apply Kd.R_drew)); exact HO265.out) hb)
            have n2_ := Aside0.mk (Kd.R_below (by (with_reducible repeat (first | apply Kd.R_alloc | apply Kd.R_drewN | apply Kd.R_drew)); exact HO277.out) hb)
            have n3_ := Aside0.mk (Kd.R_below (by (with_reducible repeat (first | apply Kd.R_alloc | apply Kd.R_drewN | apply Kd.R_drew)); exact HO280.out) hb)
            have n4_ := Aside0.mk (Kd.R_below (by (with_reducible repeat (first | apply Kd.R_alloc | apply Kd.R_drewN | apply Kd.R_drew)); exact HO288.out) hb)
            have n5_ := Aside0.mk (Kd.R_below (by (with_reducible repeat (first | apply Kd.R_alloc | apply Kd.R_drewN | apply Kd.R_drew)); exact HO291.out) hb)
            have n6_ := Aside0.mk (Kd.R_below (by (with_reducible repeat (first | apply Kd.R_alloc | apply Kd.R_drewN | apply Kd.R_drew)); exact HO304.out) hb)
            have n7_ := Aside0.mk (Kd.R_below (by (with_reducible repeat (first | apply Kd.R_alloc | apply Kd.R_drewN | apply Kd.R_drew)); exact HO307.out) hb)
            have n8_ := Aside0.mk (Kd.R_below (by (with_reducible repeat (first | apply Kd.R_alloc | apply Kd.R_drewN | apply Kd.R_drew)); exact HO316.out) hb)
            have n9_ := Aside0.mk (Kd.R_below (by (with_reducible repeat (first | apply Kd.R_alloc | apply Kd.R_drewN | apply Kd.R_drew)); exact HO319.out) hb)
            have n10_ := Aside0.mk (blk_below (bx BK252.out) hb)
            have n11_ := Aside0.mk (blk_below (bx BK253.out) hb)
            have n12_ := Aside0.mk (blk_below (bx BK299.out) hb)
            have n13_ := Aside0.mk (blk_below (bx BK308.out) hb)
            have n14_ := bs HB hb
            clear HO262
            clear HO265
            clear HO277
            clear HO280
            clear HO288
            clear HO291
            clear HO304
            clear HO307
            clear HO316
            clear HO319
            clear BK252
            clear BK253
            clear BK299
            clear BK308
            clear HB
            have HO262 := n0_
            have HO265 := n1_
            have HO277 := n2_
            have HO280 := n3_
            have HO288 := n4_
            have HO291 := n5_
            have HO304 := n6_
            have HO307 := n7_
            have HO316 := n8_
            have HO319 := n9_
            have BK252 := n10_
            have BK253 := n11_
            have BK299 := n12_
            have BK308 := n13_
            have HB := n14_
            clear n0_ n1_ n2_ n3_ n4_ n5_ n6_ n7_ n8_ n9_ n10_ n11_ n12_ n13_ n14_
            (try clear hb)
            (try clear hb2)
            (try clear hk)
            (try clear hi)
            refine hK.out _ _ ⟨(blk_cell BK299.out 0).trans rfl, (blk_cell BK299.out 1).trans rfl, (blk_cell BK299.out 2).trans rfl, (blk_cell BK299.out 3).trans rfl, (blk_cell BK299.out 4).trans rfl, (blk_cell BK299.out 5).trans rfl, (blk_cell BK299.out 6).trans rfl, (blk_cell BK299.out 7).trans rfl, (blk_cell BK299.out 8).trans rfl, (blk_cell BK299.out 9).trans rfl, (blk_cell BK299.out 10).trans rfl, (blk_cell BK299.out 11).trans rfl, (blk_cell BK299.out 12).trans rfl, (blk_cell BK252.out 0).trans rfl, (blk_cell BK252.out 1).trans rfl, (blk_cell BK252.out 2).trans rfl, (blk_cell BK252.out 3).trans rfl, (blk_cell BK252.out 4).trans rfl, (blk_cell BK252.out 5).trans rfl, (blk_cell BK252.out 6).trans rfl, (blk_cell BK252.out 7).trans rfl, (blk_cell BK252.out 8).trans rfl, (blk_cell BK252.out 9).trans rfl, (blk_cell BK252.out 10).trans rfl, (blk_cell BK252.out 11).trans rfl, (blk_cell BK252.out 12).trans rfl⟩ (fun hHeld => ?_)
            clear hK K
            refine norm_ (a' := ?_) ?_ ?_
            rotate_left
            · show Act.put _ (some 42) _ = _
              simp only [Act.put, List.setIfInBounds_toArray, List.set_cons_zero, List.set_cons_succ, i64_w, i32_w]
              rfl
            refine pure_ (i := 4) (N := some 43) (v := ?_) (a' := ?_) #[true, true, true, true, true] rfl rfl (by kernel_rfl) (fun _ _ _ h => h) (Or.inl ⟨by rfl, ?_⟩) ?_ ?_
            rotate_left
            · intro w'
              go_simp
              with_reducible rfl
            rotate_left
            · simp only [Act.put, List.setIfInBounds_toArray, List.set_cons_zero, List.set_cons_succ, i64_w, i32_w]
              rfl
            refine done_ (by kernel_rfl) ?_
            try go_wp2
            have n0_ := Aside0.mk (Kd.R_drew HO262.out)
            have n1_ := Aside0.mk (Kd.R_drew HO265.out)
            have n2_ := Aside0.mk (Kd.R_drew HO277.out)
            have n3_ := Aside0.mk (Kd.R_drew HO280.out)
            have n4_ := Aside0.mk (Kd.R_drew HO288.out)
            have n5_ := Aside0.mk (Kd.R_drew HO291.out)
            have n6_ := Aside0.mk (Kd.R_drew HO304.out)
            have n7_ := Aside0.mk (Kd.R_drew HO307.out)
            have n8_ := Aside0.mk (Kd.R_drew HO316.out)
            have n9_ := Aside0.mk (Kd.R_drew HO319.out)
            have n10_ := Aside0.mk (blk_drew BK252.out)
            have n11_ := Aside0.mk (blk_drew BK253.out)
            have n12_ := Aside0.mk (blk_drew BK299.out)
            have n13_ := Aside0.mk (blk_drew BK308.out)
            have n14_ := Aside0.mk (below_drew1 HB.out)
            clear HO262
            clear HO265
            clear HO277
            clear HO280
            clear HO288
            clear HO291
            clear HO304
            clear HO307
            clear HO316
            clear HO319
            clear BK252
            clear BK253
            clear BK299
            clear BK308
            clear HB
            have HO262 := n0_
            have HO265 := n1_
            have HO277 := n2_
            have HO280 := n3_
            have HO288 := n4_
            have HO291 := n5_
            have HO304 := n6_
            have HO307 := n7_
            have HO316 := n8_
            have HO319 := n9_
            have BK252 := n10_
            have BK253 := n11_
            have BK299 := n12_
            have BK308 := n13_
            have HB := n14_
            clear n0_ n1_ n2_ n3_ n4_ n5_ n6_ n7_ n8_ n9_ n10_ n11_ n12_ n13_ n14_
            refine start_ (n := 5) (S := fun w' => w'.cell? ⟨gb308, 0, none⟩ = some (.int .i64 t300) ∧ w'.cell? ⟨gb308, 1, none⟩ = some (.int .i64 t301) ∧ w'.cell? ⟨gb308, 2, none⟩ = some (.slice Ao63 t302.length co63) ∧ w'.cell? ⟨gb308, 3, none⟩ = some (.slice Ao64 t305.length co64) ∧ w'.cell? ⟨gb253, 0, none⟩ = some (.int .i64 a1_0) ∧ w'.cell? ⟨gb253, 1, none⟩ = some (.int .i64 a1_1) ∧ w'.cell? ⟨gb253, 2, none⟩ = some (.slice A1_2 l1_2.length c1_2) ∧ w'.cell? ⟨gb253, 3, none⟩ = some (.slice A1_3 l1_3.length c1_3)) (ds := []) #[false, false, false, false, false] (by kernel_rfl) rfl rfl ⟨(blk_cell BK308.out 0).trans rfl, (blk_cell BK308.out 1).trans rfl, (blk_cell BK308.out 2).trans rfl, (blk_cell BK308.out 3).trans rfl, (blk_cell BK253.out 0).trans rfl, (blk_cell BK253.out 1).trans rfl, (blk_cell BK253.out 2).trans rfl, (blk_cell BK253.out 3).trans rfl⟩ (fun hHeld => ?_)
            generalize w71.drew = w72 at HO262 HO265 HO277 HO280 HO288 HO291 HO304 HO307 HO316 HO319 BK252 BK253 BK299 BK308 HB hHeld ⊢
            refine take_ (i := 0) (N := some 44) (v := ?_) (a' := ?_) #[true, false, false, false, false] rfl rfl (by kernel_rfl) (fun _ _ _ h => h) (Or.inl ⟨by rfl, ?_⟩) hHeld ?_ ?_
            rotate_left
            · rintro w' ⟨s0, s1, s2, s3, s4, s5, s6, s7⟩
              go_simp
              with_reducible rfl
            rotate_left
            · simp only [Act.put, List.setIfInBounds_toArray, List.set_cons_zero, List.set_cons_succ, i64_w, i32_w]
              rfl
            refine take_ (i := 1) (N := some 45) (v := ?_) (a' := ?_) #[true, true, false, false, false] rfl rfl (by kernel_rfl) (fun _ _ _ h => h) (Or.inl ⟨by rfl, ?_⟩) hHeld ?_ ?_
            rotate_left
            · rintro w' ⟨s0, s1, s2, s3, s4, s5, s6, s7⟩
              go_simp
              with_reducible rfl
            rotate_left
            · simp only [Act.put, List.setIfInBounds_toArray, List.set_cons_zero, List.set_cons_succ, i64_w, i32_w]
              rfl
            refine one_ (i := 2) (N := some 46) #[true, true, true, false, false] rfl rfl (by kernel_rfl) (by decide) (fun K hK => ?_)
            refine goes_ Try.func67 (by kernel_rfl) rfl #[.agg #[.int .i64 a1_0, .int .i64 a1_1, .slice A1_2 l1_2.length c1_2, .slice A1_3 l1_3.length c1_3]] (by rfl) rfl rfl (by (try simp only [List.map_toArray, List.map_cons, List.map_nil]); first | done | rfl | (simp only [List.length_drop, List.length_take]; rfl)) ?_
            with_reducible refine (laws_toSeq.calls k a1_0 a1_1 _ _ l1_2 _ _ l1_3 t328 t329 t330 t333 _ ?side1 ?side2 ?side3 ?side4 A30.out).mono ?_
            (case side1 => repeat (first | exact (Kd.C_below HR1_2.out HB.out) | (with_reducible refine Kd.C_alloc ?_ _) | (with_reducible refine Kd.C_drewN ?_ _) | (with_reducible refine Kd.C_drew ?_)))
            (case side2 => exact HC1_2.out)
            (case side3 => repeat (first | exact (Kd.C_below HR1_3.out HB.out) | (with_reducible refine Kd.C_alloc ?_ _) | (with_reducible refine Kd.C_drewN ?_ _) | (with_reducible refine Kd.C_drew ?_)))
            (case side4 => exact HC1_3.out)
            rintro e w73 ⟨v331, v334, rfl, ho0, ho1, hb⟩
            refine ⟨_, rfl, ?_⟩
            have n0_ := Aside0.mk (Kd.R_mono (Kd.R_told (Kd.R_told (Kd.R_old (by (with_reducible repeat (first | apply Kd.R_alloc | apply Kd.R_drewN | apply Kd.R_drew)); exact HO262.out) hb) (Kd.R_base ho0)) (Kd.R_base ho1)) (fun _ h_ => h_.1))
            have n1_ := Aside0.mk (Kd.R_mono (Kd.R_told (Kd.R_told (Kd.R_old (by (with_reducible repeat (first | apply Kd.R_alloc | apply Kd.R_drewN | apply Kd.R_drew)); exact HO265.out) hb) (Kd.R_base ho0)) (Kd.R_base ho1)) (fun _ h_ => h_.1))
            have n2_ := Aside0.mk (Kd.R_mono (Kd.R_told (Kd.R_told (Kd.R_old (by (with_reducible repeat (first | apply Kd.R_alloc | apply Kd.R_drewN | apply Kd.R_drew)); exact HO277.out) hb) (Kd.R_base ho0)) (Kd.R_base ho1)) (fun _ h_ => h_.1))
            have n3_ := Aside0.mk (Kd.R_mono (Kd.R_told (Kd.R_told (Kd.R_old (by (with_reducible repeat (first | apply Kd.R_alloc | apply Kd.R_drewN | apply Kd.R_drew)); exact HO280.out) hb) (Kd.R_base ho0)) (Kd.R_base ho1)) (fun _ h_ => h_.1))
            have n4_ := Aside0.mk (Kd.R_mono (Kd.R_told (Kd.R_told (Kd.R_old (by (with_reducible repeat (first | apply Kd.R_alloc | apply Kd.R_drewN | apply Kd.R_drew)); exact HO288.out) hb) (Kd.R_base ho0)) (Kd.R_base ho1)) (fun _ h_ => h_.1))
            have n5_ := Aside0.mk (Kd.R_mono (Kd.R_told (Kd.R_told (Kd.R_old (by (with_reducible repeat (first | apply Kd.R_alloc | apply Kd.R_drewN | apply Kd.R_drew)); exact HO291.out) hb) (Kd.R_base ho0)) (Kd.R_base ho1)) (fun _ h_ => h_.1))
            have n6_ := Aside0.mk (Kd.R_mono (Kd.R_told (Kd.R_told (Kd.R_old (by (with_reducible repeat (first | apply Kd.R_alloc | apply Kd.R_drewN | apply Kd.R_drew)); exact HO304.out) hb) (Kd.R_base ho0)) (Kd.R_base ho1)) (fun _ h_ => h_.1))
            have n7_ := Aside0.mk (Kd.R_mono (Kd.R_told (Kd.R_told (Kd.R_old (by (with_reducible repeat (first | apply Kd.R_alloc | apply Kd.R_drewN | apply Kd.R_drew)); exact HO307.out) hb) (Kd.R_base ho0)) (Kd.R_base ho1)) (fun _ h_ => h_.1))
            have n8_ := Aside0.mk (Kd.R_mono (Kd.R_told (Kd.R_told (Kd.R_old (by (with_reducible repeat (first | apply Kd.R_alloc | apply Kd.R_drewN | apply Kd.R_drew)); exact HO316.out) hb) (Kd.R_base ho0)) (Kd.R_base ho1)) (fun _ h_ => h_.1))
            have n9_ := Aside0.mk (Kd.R_mono (Kd.R_told (Kd.R_told (Kd.R_old (by (with_reducible repeat (first | apply Kd.R_alloc | apply Kd.R_drewN | apply Kd.R_drew)); exact HO319.out) hb) (Kd.R_base ho0)) (Kd.R_base ho1)) (fun _ h_ => h_.1))
            have n10_ := Aside0.mk (Kd.R_lower (Kd.R_new' (Kd.R_new' (Kd.R_new' (Kd.R_new' (Kd.R_new' (Kd.R_new' (Kd.R_new' (Kd.R_new' (Kd.R_new' (Kd.R_new' ho0 (Kd.R_lt (by (with_reducible repeat (first | apply Kd.R_alloc | apply Kd.R_drewN | apply Kd.R_drew)); exact HO262.out))) (Kd.R_lt (by (with_reducible repeat (first | apply Kd.R_alloc | apply Kd.R_drewN | apply Kd.R_drew)); exact HO265.out))) (Kd.R_lt (by (with_reducible repeat (first | apply Kd.R_alloc | apply Kd.R_drewN | apply Kd.R_drew)); exact HO277.out))) (Kd.R_lt (by (with_reducible repeat (first | apply Kd.R_alloc | apply Kd.R_drewN | apply Kd.R_drew)); exact HO280.out))) (Kd.R_lt (by (with_reducible repeat (first | apply Kd.R_alloc | apply Kd.R_drewN | apply Kd.R_drew)); exact HO288.out))) (Kd.R_lt (by (with_reducible repeat (first | apply Kd.R_alloc | apply Kd.R_drewN | apply Kd.R_drew)); exact HO291.out))) (Kd.R_lt (by (with_reducible repeat (first | apply Kd.R_alloc | apply Kd.R_drewN | apply Kd.R_drew)); exact HO304.out))) (Kd.R_lt (by (with_reducible repeat (first | apply Kd.R_alloc | apply Kd.R_drewN | apply Kd.R_drew)); exact HO307.out))) (Kd.R_lt (by (with_reducible repeat (first | apply Kd.R_alloc | apply Kd.R_drewN | apply Kd.R_drew)); exact HO316.out))) (Kd.R_lt (by (with_reducible repeat (first | apply Kd.R_alloc | apply Kd.R_drewN | apply Kd.R_drew)); exact HO319.out))) (below_size bl))
            have n11_ := Aside0.mk (Kd.R_lower (Kd.R_new' (Kd.R_new' (Kd.R_new' (Kd.R_new' (Kd.R_new' (Kd.R_new' (Kd.R_new' (Kd.R_new' (Kd.R_new' (Kd.R_new' ho1 (Kd.R_lt (by (with_reducible repeat (first | apply Kd.R_alloc | apply Kd.R_drewN | apply Kd.R_drew)); exact HO262.out))) (Kd.R_lt (by (with_reducible repeat (first | apply Kd.R_alloc | apply Kd.R_drewN | apply Kd.R_drew)); exact HO265.out))) (Kd.R_lt (by (with_reducible repeat (first | apply Kd.R_alloc | apply Kd.R_drewN | apply Kd.R_drew)); exact HO277.out))) (Kd.R_lt (by (with_reducible repeat (first | apply Kd.R_alloc | apply Kd.R_drewN | apply Kd.R_drew)); exact HO280.out))) (Kd.R_lt (by (with_reducible repeat (first | apply Kd.R_alloc | apply Kd.R_drewN | apply Kd.R_drew)); exact HO288.out))) (Kd.R_lt (by (with_reducible repeat (first | apply Kd.R_alloc | apply Kd.R_drewN | apply Kd.R_drew)); exact HO291.out))) (Kd.R_lt (by (with_reducible repeat (first | apply Kd.R_alloc | apply Kd.R_drewN | apply Kd.R_drew)); exact HO304.out))) (Kd.R_lt (by (with_reducible repeat (first | apply Kd.R_alloc | apply Kd.R_drewN | apply Kd.R_drew)); exact HO307.out))) (Kd.R_lt (by (with_reducible repeat (first | apply Kd.R_alloc | apply Kd.R_drewN | apply Kd.R_drew)); exact HO316.out))) (Kd.R_lt (by (with_reducible repeat (first | apply Kd.R_alloc | apply Kd.R_drewN | apply Kd.R_drew)); exact HO319.out))) (below_size bl))
            have n12_ := Aside0.mk (blk_below (bx BK252.out) hb)
            have n13_ := Aside0.mk (blk_below (bx BK253.out) hb)
            have n14_ := Aside0.mk (blk_below (bx BK299.out) hb)
            have n15_ := Aside0.mk (blk_below (bx BK308.out) hb)
            have n16_ := bs HB hb
            clear HO262
            clear HO265
            clear HO277
            clear HO280
            clear HO288
            clear HO291
            clear HO304
            clear HO307
            clear HO316
            clear HO319
            clear BK252
            clear BK253
            clear BK299
            clear BK308
            clear HB
            have HO262 := n0_
            have HO265 := n1_
            have HO277 := n2_
            have HO280 := n3_
            have HO288 := n4_
            have HO291 := n5_
            have HO304 := n6_
            have HO307 := n7_
            have HO316 := n8_
            have HO319 := n9_
            have HO332 := n10_
            have HO335 := n11_
            have BK252 := n12_
            have BK253 := n13_
            have BK299 := n14_
            have BK308 := n15_
            have HB := n16_
            clear n0_ n1_ n2_ n3_ n4_ n5_ n6_ n7_ n8_ n9_ n10_ n11_ n12_ n13_ n14_ n15_ n16_
            (try clear hb)
            (try clear hb2)
            (try clear hk)
            (try clear hi)
            (try clear ho0)
            (try clear ho1)
            obtain ⟨Ao74, co74, eo74⟩ := Kd.R_slice HO332.out
            (first | subst eo74 | (injection eo74 with f1_ f2_ f3_; have f4_ := f1_.symm; have f5_ := f3_.symm; clear f1_ f2_ f3_; subst f4_; subst f5_))
            obtain ⟨Ao75, co75, eo75⟩ := Kd.R_slice HO335.out
            (first | subst eo75 | (injection eo75 with f1_ f2_ f3_; have f4_ := f1_.symm; have f5_ := f3_.symm; clear f1_ f2_ f3_; subst f4_; subst f5_))
            refine hK.out _ _ ⟨(blk_cell BK308.out 0).trans rfl, (blk_cell BK308.out 1).trans rfl, (blk_cell BK308.out 2).trans rfl, (blk_cell BK308.out 3).trans rfl, (blk_cell BK253.out 0).trans rfl, (blk_cell BK253.out 1).trans rfl, (blk_cell BK253.out 2).trans rfl, (blk_cell BK253.out 3).trans rfl⟩ (fun hHeld => ?_)
            clear hK K
            refine norm_ (a' := ?_) ?_ ?_
            rotate_left
            · show Act.put _ (some 46) _ = _
              simp only [Act.put, List.setIfInBounds_toArray, List.set_cons_zero, List.set_cons_succ, i64_w, i32_w]
              rfl
            refine one_ (i := 3) (N := some 47) #[true, true, true, true, false] rfl rfl (by kernel_rfl) (by decide) (fun K hK => ?_)
            refine goes_ Try.func69 (by kernel_rfl) rfl #[.agg #[.int .i64 t300, .int .i64 t301, .slice Ao63 t302.length co63, .slice Ao64 t305.length co64], .agg #[.int .i64 t328, .int .i64 t329, .slice Ao74 t330.length co74, .slice Ao75 t333.length co75]] (by rfl) rfl rfl (by (try simp only [List.map_toArray, List.map_cons, List.map_nil]); first | done | rfl | (simp only [List.length_drop, List.length_take]; rfl)) ?_
            with_reducible refine (laws_eqSeq.calls k t300 t301 _ _ t302 _ _ t305 t328 t329 _ _ t330 _ _ t333 true _ ?side1 ?side2 ?side3 ?side4 ?side5 ?side6 ?side7 ?side8 A31.out).mono ?_
            (case side1 => repeat (first | exact (Kd.R_reads' HO304.out).2.2 | (with_reducible refine Kd.C_alloc ?_ _) | (with_reducible refine Kd.C_drewN ?_ _) | (with_reducible refine Kd.C_drew ?_)))
            (case side2 => exact (Kd.R_reads' HO304.out).2.1)
            (case side3 => repeat (first | exact (Kd.R_reads' HO307.out).2.2 | (with_reducible refine Kd.C_alloc ?_ _) | (with_reducible refine Kd.C_drewN ?_ _) | (with_reducible refine Kd.C_drew ?_)))
            (case side4 => exact (Kd.R_reads' HO307.out).2.1)
            (case side5 => repeat (first | exact (Kd.R_reads' HO332.out).2.2 | (with_reducible refine Kd.C_alloc ?_ _) | (with_reducible refine Kd.C_drewN ?_ _) | (with_reducible refine Kd.C_drew ?_)))
            (case side6 => exact (Kd.R_reads' HO332.out).2.1)
            (case side7 => repeat (first | exact (Kd.R_reads' HO335.out).2.2 | (with_reducible refine Kd.C_alloc ?_ _) | (with_reducible refine Kd.C_drewN ?_ _) | (with_reducible refine Kd.C_drew ?_)))
            (case side8 => exact (Kd.R_reads' HO335.out).2.1)
            rintro e w76 ⟨rfl, hb⟩
            refine ⟨_, rfl, ?_⟩
            have n0_ := Aside0.mk (Kd.R_below (by (with_reducible repeat (first | apply Kd.R_alloc | apply Kd.R_drewN | apply Kd.R_drew)); exact HO262.out) hb)
            have n1_ := Aside0.mk (Kd.R_below (by (with_reducible repeat (first | apply Kd.R_alloc | apply Kd.R_drewN | apply Kd.R_drew)); exact HO265.out) hb)
            have n2_ := Aside0.mk (Kd.R_below (by (with_reducible repeat (first | apply Kd.R_alloc | apply Kd.R_drewN | apply Kd.R_drew)); exact HO277.out) hb)
            have n3_ := Aside0.mk (Kd.R_below (by (with_reducible repeat (first | apply Kd.R_alloc | apply Kd.R_drewN | apply Kd.R_drew)); exact HO280.out) hb)
            have n4_ := Aside0.mk (Kd.R_below (by (with_reducible repeat (first | apply Kd.R_alloc | apply Kd.R_drewN | apply Kd.R_drew)); exact HO288.out) hb)
            have n5_ := Aside0.mk (Kd.R_below (by (with_reducible repeat (first | apply Kd.R_alloc | apply Kd.R_drewN | apply Kd.R_drew)); exact HO291.out) hb)
            have n6_ := Aside0.mk (Kd.R_below (by (with_reducible repeat (first | apply Kd.R_alloc | apply Kd.R_drewN | apply Kd.R_drew)); exact HO304.out) hb)
            have n7_ := Aside0.mk (Kd.R_below (by (with_reducible repeat (first | apply Kd.R_alloc | apply Kd.R_drewN | apply Kd.R_drew)); exact HO307.out) hb)
            have n8_ := Aside0.mk (Kd.R_below (by (with_reducible repeat (first | apply Kd.R_alloc | apply Kd.R_drewN | apply Kd.R_drew)); exact HO316.out) hb)
            have n9_ := Aside0.mk (Kd.R_below (by (with_reducible repeat (first | apply Kd.R_alloc | apply Kd.R_drewN | apply Kd.R_drew)); exact HO319.out) hb)
            have n10_ := Aside0.mk (Kd.R_below (by (with_reducible repeat (first | apply Kd.R_alloc | apply Kd.R_drewN | apply Kd.R_drew)); exact HO332.out) hb)
            have n11_ := Aside0.mk (Kd.R_below (by (with_reducible repeat (first | apply Kd.R_alloc | apply Kd.R_drewN | apply Kd.R_drew)); exact HO335.out) hb)
            have n12_ := Aside0.mk (blk_below (bx BK252.out) hb)
            have n13_ := Aside0.mk (blk_below (bx BK253.out) hb)
            have n14_ := Aside0.mk (blk_below (bx BK299.out) hb)
            have n15_ := Aside0.mk (blk_below (bx BK308.out) hb)
            have n16_ := bs HB hb
            clear HO262
            clear HO265
            clear HO277
            clear HO280
            clear HO288
            clear HO291
            clear HO304
            clear HO307
            clear HO316
            clear HO319
            clear HO332
            clear HO335
            clear BK252
            clear BK253
            clear BK299
            clear BK308
            clear HB
            have HO262 := n0_
            have HO265 := n1_
            have HO277 := n2_
            have HO280 := n3_
            have HO288 := n4_
            have HO291 := n5_
            have HO304 := n6_
            have HO307 := n7_
            have HO316 := n8_
            have HO319 := n9_
            have HO332 := n10_
            have HO335 := n11_
            have BK252 := n12_
            have BK253 := n13_
            have BK299 := n14_
            have BK308 := n15_
            have HB := n16_
            clear n0_ n1_ n2_ n3_ n4_ n5_ n6_ n7_ n8_ n9_ n10_ n11_ n12_ n13_ n14_ n15_ n16_
            (try clear hb)
            (try clear hb2)
            (try clear hk)
            (try clear hi)
            refine hK.out _ _ ⟨(blk_cell BK308.out 0).trans rfl, (blk_cell BK308.out 1).trans rfl, (blk_cell BK308.out 2).trans rfl, (blk_cell BK308.out 3).trans rfl, (blk_cell BK253.out 0).trans rfl, (blk_cell BK253.out 1).trans rfl, (blk_cell BK253.out 2).trans rfl, (blk_cell BK253.out 3).trans rfl⟩ (fun hHeld => ?_)
            clear hK K
            refine norm_ (a' := ?_) ?_ ?_
            rotate_left
            · show Act.put _ (some 47) _ = _
              simp only [Act.put, List.setIfInBounds_toArray, List.set_cons_zero, List.set_cons_succ, i64_w, i32_w]
              rfl
            refine pure_ (i := 4) (N := some 48) (v := ?_) (a' := ?_) #[true, true, true, true, true] rfl rfl (by kernel_rfl) (fun _ _ _ h => h) (Or.inl ⟨by rfl, ?_⟩) ?_ ?_
            rotate_left
            · intro w'
              go_simp
              with_reducible rfl
            rotate_left
            · simp only [Act.put, List.setIfInBounds_toArray, List.set_cons_zero, List.set_cons_succ, i64_w, i32_w]
              rfl
            refine done_ (by kernel_rfl) ?_
            try go_wp2
            go_ret
            exact ⟨rr, bl⟩
          · replace c32 := Bool.eq_false_iff.mpr c32
            subst c32
            have H1 : (some false) = some r := by rw [if_neg (show ¬ (false = true) by decide)] at H; exact H
            clear H
            have H := H1
            clear H1
            obtain rfl := Option.some.inj H
            exact absurd hr_.out (by decide)
        · replace c29 := Bool.eq_false_iff.mpr c29
          subst c29
          have H1 : (some false) = some r := by rw [if_neg (show ¬ (false = true) by decide)] at H; exact H
          clear H
          have H := H1
          clear H1
          obtain rfl := Option.some.inj H
          exact absurd hr_.out (by decide)

end Go.Proofs.Ytfbifogoheajmaa.QFnExactAdmitFits
