/- The types of the program, as the abstract logic reads them. Written by a program of this session. Conditions: none. -/
import Derived.Test.YtnhflbeahbcklabGreatDFnStreams
import Derived.Test.YtnhflbeahbcklabGreatRows
import Derived.KernelRfl
namespace Go.Proofs.YtnhflbeahbcklabGreat.A
open Go Go.Proofs Go.Proofs.YtnhflbeahbcklabGreatAL Go.RowKit
set_option linter.unusedVariables false
set_option linter.unusedSimpArgs false
def Xp1 (x : ByteArray) : List SV := [.str x]
def Xzw : List SV → Option ByteArray
 | [x0] => (match gS x0 with | some a0 => some a0 | _ => none)
 | _ => none
abbrev Xbm : Xtz := ⟨ByteArray, Xgr, 1, Xp1, Xzw⟩
theorem Ykw : Xbm.ok := by
 refine ⟨fun _ => rfl, by decide, fun cs x h => ?_⟩
 change Xzw cs = some x at h
 unfold Xzw at h
 split at h
 ·
  split at h
  ·
   cases h
   refine ⟨rfl, fun j y hy => ?_⟩
   change (Xp1 _)[j]? = some y at hy
   rcases j with _ | _
   ·
    cases hy; exact ⟨_, rfl, Yym (by assumption)⟩
   ·
    simp [Xp1] at hy
  ·
   cases h
 ·
  cases h
theorem Yho : Xwf [.str ⟨#[]⟩] (Xbm.enc Xbm.d) := by
 intro j y hy
 change (Xp1 _)[j]? = some y at hy
 rcases j with _ | _
 ·
  cases hy; exact ⟨_, rfl, fun _ _ _ h => h⟩
 ·
  simp [Xp1] at hy
theorem Xdb (l : List ByteArray) : (l.filterMap fun y => Xbm.dec (Xbm.enc y)) = l := by
 rw [show (fun y => Xbm.dec (Xbm.enc y)) = some from funext fun y => rfl]; exact List.filterMap_some
def Xwt (x : (List Int)) : List SV := [.ints .i64 x]
def Yly : List SV → Option (List Int)
 | [x0] => (match gL .i64 x0 with | some a0 => some a0 | _ => none)
 | _ => none
abbrev Xo4 : Xtz := ⟨(List Int), Xmc, 1, Xwt, Yly⟩
theorem Ypp : Xo4.ok := by
 refine ⟨fun _ => rfl, by decide, fun cs x h => ?_⟩
 change Yly cs = some x at h
 unfold Yly at h
 split at h
 ·
  split at h
  ·
   cases h
   refine ⟨rfl, fun j y hy => ?_⟩
   change (Xwt _)[j]? = some y at hy
   rcases j with _ | _
   ·
    cases hy; exact ⟨_, rfl, Yq6 (by assumption)⟩
   ·
    simp [Xwt] at hy
  ·
   cases h
 ·
  cases h
theorem Yna : Xwf [.nil] (Xo4.enc Xo4.d) := by
 intro j y hy
 change (Xwt _)[j]? = some y at hy
 rcases j with _ | _
 ·
  cases hy; exact ⟨_, rfl, Yq6 (k := .i64) rfl⟩
 ·
  simp [Xwt] at hy
theorem Yy6 (l : List (List Int)) : (l.filterMap fun y => Xo4.dec (Xo4.enc y)) = l := by
 rw [show (fun y => Xo4.dec (Xo4.enc y)) = some from funext fun y => rfl]; exact List.filterMap_some
def Zap (x : Pic) : List SV := [.int .i64 x.Wide, .int .i64 x.High, .str x.Dots]
def Zb0 : List SV → Option Pic
 | [x0, x1, x2] => (match gI .i64 x0, gI .i64 x1, gS x2 with | some a0, some a1, some a2 => some ⟨a0, a1, a2⟩ | _, _, _ => none)
 | _ => none
abbrev Ymr : Xtz := ⟨Pic, Yzb, 3, Zap, Zb0⟩
theorem Yy7 : Ymr.ok := by
 refine ⟨fun _ => rfl, by decide, fun cs x h => ?_⟩
 change Zb0 cs = some x at h
 unfold Zb0 at h
 split at h
 ·
  split at h
  ·
   cases h
   refine ⟨rfl, fun j y hy => ?_⟩
   change (Zap _)[j]? = some y at hy
   rcases j with _ | _ | _ | _
   ·
    cases hy; exact ⟨_, rfl, Yjy (by assumption)⟩
   ·
    cases hy; exact ⟨_, rfl, Yjy (by assumption)⟩
   ·
    cases hy; exact ⟨_, rfl, Yym (by assumption)⟩
   ·
    simp [Zap] at hy
  ·
   cases h
 ·
  cases h
theorem Ywu : Xwf [.int .i64 0, .int .i64 0, .str ⟨#[]⟩] (Ymr.enc Ymr.d) := by
 intro j y hy
 change (Zap _)[j]? = some y at hy
 rcases j with _ | _ | _ | _
 ·
  cases hy; exact ⟨_, rfl, fun _ _ _ h => h⟩
 ·
  cases hy; exact ⟨_, rfl, fun _ _ _ h => h⟩
 ·
  cases hy; exact ⟨_, rfl, fun _ _ _ h => h⟩
 ·
  simp [Zap] at hy
theorem Yt1 (l : List Pic) : (l.filterMap fun y => Ymr.dec (Ymr.enc y)) = l := by
 rw [show (fun y => Ymr.dec (Ymr.enc y)) = some from funext fun y => rfl]; exact List.filterMap_some
def Yd1 (x : Xao) : List SV := [.int .i64 x.Kind, .int .i64 x.Mode, .int .i64 x.Dx, .int .i64 x.Dy, .ints .i64 x.Levels]
def Yqa : List SV → Option Xao
 | [x0, x1, x2, x3, x4] => (match gI .i64 x0, gI .i64 x1, gI .i64 x2, gI .i64 x3, gL .i64 x4 with | some a0, some a1, some a2, some a3, some a4 => some ⟨a0, a1, a2, a3, a4⟩ | _, _, _, _, _ => none)
 | _ => none
abbrev Xe4 : Xtz := ⟨Xao, Xbt, 5, Yd1, Yqa⟩
theorem Ysj : Xe4.ok := by
 refine ⟨fun _ => rfl, by decide, fun cs x h => ?_⟩
 change Yqa cs = some x at h
 unfold Yqa at h
 split at h
 ·
  split at h
  ·
   cases h
   refine ⟨rfl, fun j y hy => ?_⟩
   change (Yd1 _)[j]? = some y at hy
   rcases j with _ | _ | _ | _ | _ | _
   ·
    cases hy; exact ⟨_, rfl, Yjy (by assumption)⟩
   ·
    cases hy; exact ⟨_, rfl, Yjy (by assumption)⟩
   ·
    cases hy; exact ⟨_, rfl, Yjy (by assumption)⟩
   ·
    cases hy; exact ⟨_, rfl, Yjy (by assumption)⟩
   ·
    cases hy; exact ⟨_, rfl, Yq6 (by assumption)⟩
   ·
    simp [Yd1] at hy
  ·
   cases h
 ·
  cases h
theorem Ypq : Xwf [.int .i64 0, .int .i64 0, .int .i64 0, .int .i64 0, .nil] (Xe4.enc Xe4.d) := by
 intro j y hy
 change (Yd1 _)[j]? = some y at hy
 rcases j with _ | _ | _ | _ | _ | _
 ·
  cases hy; exact ⟨_, rfl, fun _ _ _ h => h⟩
 ·
  cases hy; exact ⟨_, rfl, fun _ _ _ h => h⟩
 ·
  cases hy; exact ⟨_, rfl, fun _ _ _ h => h⟩
 ·
  cases hy; exact ⟨_, rfl, fun _ _ _ h => h⟩
 ·
  cases hy; exact ⟨_, rfl, Yq6 (k := .i64) rfl⟩
 ·
  simp [Yd1] at hy
theorem Xtb (l : List Xao) : (l.filterMap fun y => Xe4.dec (Xe4.enc y)) = l := by
 rw [show (fun y => Xe4.dec (Xe4.enc y)) = some from funext fun y => rfl]; exact List.filterMap_some
def ti3 : TI := ⟨.int .i64, 1, 8, [.int .i64 0], .ints .i64⟩
theorem Zbg : ti3.ok Tryz.prog 3 := ⟨Tryz.underlying3, ⟨Tryz.t3, _, Xds Tryz.type3, rfl, rfl, rfl, rfl⟩, rfl, rfl, by decide, ⟨rfl, rfl⟩⟩
def ti4 : TI := ⟨.bool, 1, 1, [.bool false], .none⟩
theorem Zbh : ti4.ok Tryz.prog 4 := ⟨Tryz.underlying4, ⟨Tryz.t4, _, Xds Tryz.type4, rfl, rfl, rfl, rfl⟩, rfl, rfl, by decide, trivial⟩
def ti5 : TI := ⟨.int .u8, 1, 1, [.int .u8 0], .ints .u8⟩
theorem Zbi : ti5.ok Tryz.prog 5 := ⟨Tryz.underlying5, ⟨Tryz.t5, _, Xds Tryz.type5, rfl, rfl, rfl, rfl⟩, rfl, rfl, by decide, ⟨rfl, rfl⟩⟩
def ti9 : TI := ⟨.str, 1, 16, [.str ⟨#[]⟩], .row Xbm⟩
theorem Zbj : ti9.ok Tryz.prog 9 := ⟨Tryz.underlying9, ⟨Tryz.t9, _, Xds Tryz.type9, rfl, rfl, rfl, rfl⟩, rfl, rfl, by decide, ⟨Ykw, rfl, Yho⟩⟩
def Zb9 : TI := ⟨.slice 5, 1, 24, [.nil], .none⟩
theorem Yz0 : Zb9.ok Tryz.prog 22 := ⟨Tryz.underlying22, ⟨Tryz.t22, _, Xds Tryz.type22, rfl, rfl, rfl, rfl⟩, rfl, rfl, by decide, trivial⟩
def Zca : TI := ⟨.slice 9, 1, 24, [.nil], .none⟩
theorem Yz1 : Zca.ok Tryz.prog 24 := ⟨Tryz.underlying24, ⟨Tryz.t24, _, Xds Tryz.type24, rfl, rfl, rfl, rfl⟩, rfl, rfl, by decide, trivial⟩
def Zcb : TI := ⟨.slice 37, 1, 24, [.nil], .none⟩
theorem Yz2 : Zcb.ok Tryz.prog 28 := ⟨Tryz.underlying28, ⟨Tryz.t28, _, Xds Tryz.type28, rfl, rfl, rfl, rfl⟩, rfl, rfl, by decide, trivial⟩
def Zcc : TI := ⟨.slice 3, 1, 24, [.nil], .row Xo4⟩
theorem Yz3 : Zcc.ok Tryz.prog 29 := ⟨Tryz.underlying29, ⟨Tryz.t29, _, Xds Tryz.type29, rfl, rfl, rfl, rfl⟩, rfl, rfl, by decide, ⟨Ypp, rfl, Yna⟩⟩
def Zcd : TI := ⟨.struct [(0, 3, 1), (1, 3, 1), (2, 29, 1), (3, 29, 1)], 4, 64, [.int .i64 0, .int .i64 0, .nil, .nil], .none⟩
theorem Yz4 : Zcd.ok Tryz.prog 33 := ⟨⟨_, Tryz.underlying33, rfl, fun w => by simp [Tryz.sizeOf29, Tryz.sizeOf3]⟩, ⟨Tryz.t33, _, Xds Tryz.type33, rfl, rfl, rfl, rfl⟩, rfl, rfl, by decide, trivial⟩
def Zce : TI := ⟨.struct [(0, 3, 1), (1, 4, 1), (2, 4, 1), (3, 4, 1)], 4, 16, [.int .i64 0, .bool false, .bool false, .bool false], .none⟩
theorem Yz5 : Zce.ok Tryz.prog 35 := ⟨⟨_, Tryz.underlying35, rfl, fun w => by simp [Tryz.sizeOf3, Tryz.sizeOf4]⟩, ⟨Tryz.t35, _, Xds Tryz.type35, rfl, rfl, rfl, rfl⟩, rfl, rfl, by decide, trivial⟩
def Zcf : TI := ⟨.struct [(0, 3, 1), (1, 3, 1), (2, 9, 1)], 3, 32, [.int .i64 0, .int .i64 0, .str ⟨#[]⟩], .row Ymr⟩
theorem Yz6 : Zcf.ok Tryz.prog 37 := ⟨⟨_, Tryz.underlying37, rfl, fun w => by simp [Tryz.sizeOf3, Tryz.sizeOf9]⟩, ⟨Tryz.t37, _, Xds Tryz.type37, rfl, rfl, rfl, rfl⟩, rfl, rfl, by decide, ⟨Yy7, rfl, Ywu⟩⟩
def Zcg : TI := ⟨.struct [(0, 4, 1), (1, 4, 1), (2, 4, 1), (3, 33, 4), (7, 35, 4), (11, 3, 1), (12, 3, 1), (13, 37, 3), (16, 37, 3)], 19, 168, [.bool false, .bool false, .bool false, .int .i64 0, .int .i64 0, .nil, .nil, .int .i64 0, .bool false, .bool false, .bool false, .int .i64 0, .int .i64 0, .int .i64 0, .int .i64 0, .str ⟨#[]⟩, .int .i64 0, .int .i64 0, .str ⟨#[]⟩], .none⟩
theorem Yz7 : Zcg.ok Tryz.prog 39 := ⟨⟨_, Tryz.underlying39, rfl, fun w => by simp [Tryz.sizeOf3, Tryz.sizeOf33, Tryz.sizeOf35, Tryz.sizeOf37, Tryz.sizeOf4]⟩, ⟨Tryz.t39, _, Xds Tryz.type39, rfl, rfl, rfl, rfl⟩, rfl, rfl, by decide, trivial⟩
def Za3 : TI := ⟨.struct [(0, 4, 1), (1, 3, 1), (2, 4, 1), (3, 4, 1)], 4, 24, [.bool false, .int .i64 0, .bool false, .bool false], .none⟩
theorem Yxy : Za3.ok Tryz.prog 112 := ⟨⟨_, Tryz.underlying112, rfl, fun w => by simp [Tryz.sizeOf3, Tryz.sizeOf4]⟩, ⟨Tryz.t112, _, Xds Tryz.type112, rfl, rfl, rfl, rfl⟩, rfl, rfl, by decide, trivial⟩
def Za4 : TI := ⟨.slice 172, 1, 24, [.nil], .none⟩
theorem Yxz : Za4.ok Tryz.prog 113 := ⟨Tryz.underlying113, ⟨Tryz.t113, _, Xds Tryz.type113, rfl, rfl, rfl, rfl⟩, rfl, rfl, by decide, trivial⟩
def Za5 : TI := ⟨.struct [(0, 3, 1), (1, 3, 1), (2, 3, 1)], 3, 24, [.int .i64 0, .int .i64 0, .int .i64 0], .none⟩
theorem Yx0 : Za5.ok Tryz.prog 118 := ⟨⟨_, Tryz.underlying118, rfl, fun w => by simp [Tryz.sizeOf3]⟩, ⟨Tryz.t118, _, Xds Tryz.type118, rfl, rfl, rfl, rfl⟩, rfl, rfl, by decide, trivial⟩
def Za6 : TI := ⟨.int .u64, 1, 8, [.int .u64 0], .ints .u64⟩
theorem Yx1 : Za6.ok Tryz.prog 132 := ⟨Tryz.underlying132, ⟨Tryz.t132, _, Xds Tryz.type132, rfl, rfl, rfl, rfl⟩, rfl, rfl, by decide, ⟨rfl, rfl⟩⟩
def Za7 : TI := ⟨.struct [(0, 22, 1), (1, 3, 1), (2, 3, 1)], 3, 40, [.nil, .int .i64 0, .int .i64 0], .none⟩
theorem Yx2 : Za7.ok Tryz.prog 154 := ⟨⟨_, Tryz.underlying154, rfl, fun w => by simp [Tryz.sizeOf22, Tryz.sizeOf3]⟩, ⟨Tryz.t154, _, Xds Tryz.type154, rfl, rfl, rfl, rfl⟩, rfl, rfl, by decide, trivial⟩
def Za8 : TI := ⟨.struct [(0, 3, 1), (1, 3, 1), (2, 3, 1), (3, 3, 1), (4, 29, 1)], 5, 56, [.int .i64 0, .int .i64 0, .int .i64 0, .int .i64 0, .nil], .row Xe4⟩
theorem Yx3 : Za8.ok Tryz.prog 172 := ⟨⟨_, Tryz.underlying172, rfl, fun w => by simp [Tryz.sizeOf29, Tryz.sizeOf3]⟩, ⟨Tryz.t172, _, Xds Tryz.type172, rfl, rfl, rfl, rfl⟩, rfl, rfl, by decide, ⟨Ysj, rfl, Ypq⟩⟩
def Za9 : TI := ⟨.struct [(0, 3, 1), (1, 3, 1), (2, 3, 1), (3, 3, 1)], 4, 32, [.int .i64 0, .int .i64 0, .int .i64 0, .int .i64 0], .none⟩
theorem Yx4 : Za9.ok Tryz.prog 199 := ⟨⟨_, Tryz.underlying199, rfl, fun w => by simp [Tryz.sizeOf3]⟩, ⟨Tryz.t199, _, Xds Tryz.type199, rfl, rfl, rfl, rfl⟩, rfl, rfl, by decide, trivial⟩
def Zba : TI := ⟨.struct [(0, 9, 1), (1, 3, 1), (2, 4, 1)], 3, 32, [.str ⟨#[]⟩, .int .i64 0, .bool false], .none⟩
theorem Yx5 : Zba.ok Tryz.prog 210 := ⟨⟨_, Tryz.underlying210, rfl, fun w => by simp [Tryz.sizeOf3, Tryz.sizeOf4, Tryz.sizeOf9]⟩, ⟨Tryz.t210, _, Xds Tryz.type210, rfl, rfl, rfl, rfl⟩, rfl, rfl, by decide, trivial⟩
def Zbb : TI := ⟨.struct [(0, 29, 1), (1, 29, 1), (2, 3, 1)], 3, 56, [.nil, .nil, .int .i64 0], .none⟩
theorem Yx6 : Zbb.ok Tryz.prog 217 := ⟨⟨_, Tryz.underlying217, rfl, fun w => by simp [Tryz.sizeOf29, Tryz.sizeOf3]⟩, ⟨Tryz.t217, _, Xds Tryz.type217, rfl, rfl, rfl, rfl⟩, rfl, rfl, by decide, trivial⟩
def Zbc : TI := ⟨.slice 29, 1, 24, [.nil], .none⟩
theorem Yx7 : Zbc.ok Tryz.prog 233 := ⟨Tryz.underlying233, ⟨Tryz.t233, _, Xds Tryz.type233, rfl, rfl, rfl, rfl⟩, rfl, rfl, by decide, trivial⟩
def Zbd : TI := ⟨.arr 4 3, 4, 32, [.int .i64 0, .int .i64 0, .int .i64 0, .int .i64 0], .none⟩
theorem Yx8 : Zbd.ok Tryz.prog 254 := ⟨Tryz.underlying254, ⟨Tryz.t254, _, Xds Tryz.type254, rfl, rfl, rfl, rfl⟩, rfl, rfl, by decide, trivial⟩
def Zbe : TI := ⟨.arr 3 3, 3, 24, [.int .i64 0, .int .i64 0, .int .i64 0], .none⟩
theorem Yx9 : Zbe.ok Tryz.prog 260 := ⟨Tryz.underlying260, ⟨Tryz.t260, _, Xds Tryz.type260, rfl, rfl, rfl, rfl⟩, rfl, rfl, by decide, trivial⟩
def Zbf : TI := ⟨.arr 6 260, 18, 144, [.int .i64 0, .int .i64 0, .int .i64 0, .int .i64 0, .int .i64 0, .int .i64 0, .int .i64 0, .int .i64 0, .int .i64 0, .int .i64 0, .int .i64 0, .int .i64 0, .int .i64 0, .int .i64 0, .int .i64 0, .int .i64 0, .int .i64 0, .int .i64 0], .none⟩
theorem Yya : Zbf.ok Tryz.prog 261 := ⟨Tryz.underlying261, ⟨Tryz.t261, _, Xds Tryz.type261, rfl, rfl, rfl, rfl⟩, rfl, rfl, by decide, trivial⟩
def T : Nat → Option TI := lkT [(3, ti3), (4, ti4), (9, ti9), (5, ti5), (22, Zb9), (24, Zca), (28, Zcb), (29, Zcc), (33, Zcd), (35, Zce), (37, Zcf), (39, Zcg), (112, Za3), (113, Za4), (118, Za5), (132, Za6), (154, Za7), (172, Za8), (199, Za9), (210, Zba), (217, Zbb), (233, Zbc), (254, Zbd), (260, Zbe), (261, Zbf)]
theorem hT : TOk Tryz.prog T := Yzh (by
 intro p hp
 simp only [List.mem_cons, List.not_mem_nil, or_false] at hp
 rcases hp with rfl | rfl | rfl | rfl | rfl | rfl | rfl | rfl | rfl | rfl | rfl | rfl | rfl | rfl | rfl | rfl | rfl | rfl | rfl | rfl | rfl | rfl | rfl | rfl | rfl
 ·
  exact Zbg
 ·
  exact Zbh
 ·
  exact Zbj
 ·
  exact Zbi
 ·
  exact Yz0
 ·
  exact Yz1
 ·
  exact Yz2
 ·
  exact Yz3
 ·
  exact Yz4
 ·
  exact Yz5
 ·
  exact Yz6
 ·
  exact Yz7
 ·
  exact Yxy
 ·
  exact Yxz
 ·
  exact Yx0
 ·
  exact Yx1
 ·
  exact Yx2
 ·
  exact Yx3
 ·
  exact Yx4
 ·
  exact Yx5
 ·
  exact Yx6
 ·
  exact Yx7
 ·
  exact Yx8
 ·
  exact Yx9
 ·
  exact Yya)
theorem hm : Tryz.prog.follows .mixedOrders = true := by kernel_rfl
theorem Zbv (d : Nat) (w : World) (x0 y0 : Int) (x1 y1 : Bool) (x2 y2 : Bool) (x3 y3 : Bool) : (Op.equalIn (d + 2) 35 (.agg #[.int .i64 x0, .bool x1, .bool x2, .bool x3]) (.agg #[.int .i64 y0, .bool y1, .bool y2, .bool y3])).run Tryz.prog w = .ok ((x0 == y0) && ((x1 == y1) && ((x2 == y2) && (x3 == y3)))) w := by
 refine Yyk Tryz.underlying35 (by kernel_rfl) ?_
 refine Xwu (by rfl) (by go_simp; rfl) (by go_simp; rfl) (by go_simp) ?_
 refine Xwu (by rfl) (by go_simp; rfl) (by go_simp; rfl) (by go_simp) ?_
 refine Xwu (by rfl) (by go_simp; rfl) (by go_simp; rfl) (by go_simp) ?_
 exact Yqz (by rfl) (by go_simp; rfl) (by go_simp; rfl) (by go_simp)
theorem Yyl {x0 y0 : Int} {x1 y1 : Bool} {x2 y2 : Bool} {x3 y3 : Bool} : EqT Tryz.prog 35 [.int .i64 x0, .bool x1, .bool x2, .bool x3] [.int .i64 y0, .bool y1, .bool y2, .bool y3] ((x0 == y0) && ((x1 == y1) && ((x2 == y2) && (x3 == y3)))) := ⟨by kernel_rfl, rfl, rfl, fun w => Zbv 9998 w _ _ _ _ _ _ _ _⟩
theorem Zbw (d : Nat) (w : World) (x0 y0 : Int) (x1 y1 : Int) (x2 y2 : ByteArray) : (Op.equalIn (d + 2) 37 (.agg #[.int .i64 x0, .int .i64 x1, .string x2]) (.agg #[.int .i64 y0, .int .i64 y1, .string y2])).run Tryz.prog w = .ok ((x0 == y0) && ((x1 == y1) && (x2.toList == y2.toList))) w := by
 refine Yyk Tryz.underlying37 (by kernel_rfl) ?_
 refine Xwu (by rfl) (by go_simp; rfl) (by go_simp; rfl) (by go_simp) ?_
 refine Xwu (by rfl) (by go_simp; rfl) (by go_simp; rfl) (by go_simp) ?_
 exact Yqz (by rfl) (by go_simp; rfl) (by go_simp; rfl) (by go_simp)
theorem Yjv {x0 y0 : Int} {x1 y1 : Int} {x2 y2 : ByteArray} : EqT Tryz.prog 37 [.int .i64 x0, .int .i64 x1, .str x2] [.int .i64 y0, .int .i64 y1, .str y2] ((x0 == y0) && ((x1 == y1) && (x2.toList == y2.toList))) := ⟨by kernel_rfl, rfl, rfl, fun w => Zbw 9998 w _ _ _ _ _ _⟩
end Go.Proofs.YtnhflbeahbcklabGreat.A
