/- The types of the program, as the abstract logic reads them. Written by a program of this session. Conditions: none. -/
import Derived.Test.YtnhflbeahbcklaaGreatDFnSplit
import Derived.Test.YtnhflbeahbcklaaGreatRows
import Derived.KernelRfl
namespace Go.Proofs.YtnhflbeahbcklaaGreat.A
open Go Go.Proofs Go.Proofs.YtnhflbeahbcklaaGreatAL Go.RowKit
set_option linter.unusedVariables false
set_option linter.unusedSimpArgs false
def Xpv (x : ByteArray) : List SV := [.str x]
def Xze : List SV → Option ByteArray
 | [x0] => (match gS x0 with | some a0 => some a0 | _ => none)
 | _ => none
abbrev Xb9 : Xtu := ⟨ByteArray, Xjn, 1, Xpv, Xze⟩
theorem Yj1 : Xb9.ok := by
 refine ⟨fun _ => rfl, by decide, fun cs x h => ?_⟩
 change Xze cs = some x at h
 unfold Xze at h
 split at h
 ·
  split at h
  ·
   cases h
   refine ⟨rfl, fun j y hy => ?_⟩
   change (Xpv _)[j]? = some y at hy
   rcases j with _ | _
   ·
    cases hy; exact ⟨_, rfl, Ywf (by assumption)⟩
   ·
    simp [Xpv] at hy
  ·
   cases h
 ·
  cases h
theorem Ygz : Xwb [.str ⟨#[]⟩] (Xb9.enc Xb9.d) := by
 intro j y hy
 change (Xpv _)[j]? = some y at hy
 rcases j with _ | _
 ·
  cases hy; exact ⟨_, rfl, fun _ _ _ h => h⟩
 ·
  simp [Xpv] at hy
theorem Xc7 (l : List ByteArray) : (l.filterMap fun y => Xb9.dec (Xb9.enc y)) = l := by
 rw [show (fun y => Xb9.dec (Xb9.enc y)) = some from funext fun y => rfl]; exact List.filterMap_some
def Xwl (x : (List Int)) : List SV := [.ints .i64 x]
def Yk4 : List SV → Option (List Int)
 | [x0] => (match gL .i64 x0 with | some a0 => some a0 | _ => none)
 | _ => none
abbrev Xo0 : Xtu := ⟨(List Int), Xl7, 1, Xwl, Yk4⟩
theorem Yoq : Xo0.ok := by
 refine ⟨fun _ => rfl, by decide, fun cs x h => ?_⟩
 change Yk4 cs = some x at h
 unfold Yk4 at h
 split at h
 ·
  split at h
  ·
   cases h
   refine ⟨rfl, fun j y hy => ?_⟩
   change (Xwl _)[j]? = some y at hy
   rcases j with _ | _
   ·
    cases hy; exact ⟨_, rfl, Ypz (by assumption)⟩
   ·
    simp [Xwl] at hy
  ·
   cases h
 ·
  cases h
theorem Yme : Xwb [.nil] (Xo0.enc Xo0.d) := by
 intro j y hy
 change (Xwl _)[j]? = some y at hy
 rcases j with _ | _
 ·
  cases hy; exact ⟨_, rfl, Ypz (k := .i64) rfl⟩
 ·
  simp [Xwl] at hy
theorem Ywv (l : List (List Int)) : (l.filterMap fun y => Xo0.dec (Xo0.enc y)) = l := by
 rw [show (fun y => Xo0.dec (Xo0.enc y)) = some from funext fun y => rfl]; exact List.filterMap_some
def Yyc (x : Pic) : List SV := [.int .i64 x.Wide, .int .i64 x.High, .str x.Dots]
def Yzh : List SV → Option Pic
 | [x0, x1, x2] => (match gI .i64 x0, gI .i64 x1, gS x2 with | some a0, some a1, some a2 => some ⟨a0, a1, a2⟩ | _, _, _ => none)
 | _ => none
abbrev Yof : Xtu := ⟨Pic, Yw0, 3, Yyc, Yzh⟩
theorem Yww : Yof.ok := by
 refine ⟨fun _ => rfl, by decide, fun cs x h => ?_⟩
 change Yzh cs = some x at h
 unfold Yzh at h
 split at h
 ·
  split at h
  ·
   cases h
   refine ⟨rfl, fun j y hy => ?_⟩
   change (Yyc _)[j]? = some y at hy
   rcases j with _ | _ | _ | _
   ·
    cases hy; exact ⟨_, rfl, Yi1 (by assumption)⟩
   ·
    cases hy; exact ⟨_, rfl, Yi1 (by assumption)⟩
   ·
    cases hy; exact ⟨_, rfl, Ywf (by assumption)⟩
   ·
    simp [Yyc] at hy
  ·
   cases h
 ·
  cases h
theorem Yuw : Xwb [.int .i64 0, .int .i64 0, .str ⟨#[]⟩] (Yof.enc Yof.d) := by
 intro j y hy
 change (Yyc _)[j]? = some y at hy
 rcases j with _ | _ | _ | _
 ·
  cases hy; exact ⟨_, rfl, fun _ _ _ h => h⟩
 ·
  cases hy; exact ⟨_, rfl, fun _ _ _ h => h⟩
 ·
  cases hy; exact ⟨_, rfl, fun _ _ _ h => h⟩
 ·
  simp [Yyc] at hy
theorem Yj2 (l : List Pic) : (l.filterMap fun y => Yof.dec (Yof.enc y)) = l := by
 rw [show (fun y => Yof.dec (Yof.enc y)) = some from funext fun y => rfl]; exact List.filterMap_some
def Ydk (x : Xao) : List SV := [.int .i64 x.Kind, .int .i64 x.Mode, .int .i64 x.Dx, .int .i64 x.Dy, .ints .i64 x.Levels]
def Ypa : List SV → Option Xao
 | [x0, x1, x2, x3, x4] => (match gI .i64 x0, gI .i64 x1, gI .i64 x2, gI .i64 x3, gL .i64 x4 with | some a0, some a1, some a2, some a3, some a4 => some ⟨a0, a1, a2, a3, a4⟩ | _, _, _, _, _ => none)
 | _ => none
abbrev Xe1 : Xtu := ⟨Xao, Xbq, 5, Ydk, Ypa⟩
theorem Yq9 : Xe1.ok := by
 refine ⟨fun _ => rfl, by decide, fun cs x h => ?_⟩
 change Ypa cs = some x at h
 unfold Ypa at h
 split at h
 ·
  split at h
  ·
   cases h
   refine ⟨rfl, fun j y hy => ?_⟩
   change (Ydk _)[j]? = some y at hy
   rcases j with _ | _ | _ | _ | _ | _
   ·
    cases hy; exact ⟨_, rfl, Yi1 (by assumption)⟩
   ·
    cases hy; exact ⟨_, rfl, Yi1 (by assumption)⟩
   ·
    cases hy; exact ⟨_, rfl, Yi1 (by assumption)⟩
   ·
    cases hy; exact ⟨_, rfl, Yi1 (by assumption)⟩
   ·
    cases hy; exact ⟨_, rfl, Ypz (by assumption)⟩
   ·
    simp [Ydk] at hy
  ·
   cases h
 ·
  cases h
theorem Yor : Xwb [.int .i64 0, .int .i64 0, .int .i64 0, .int .i64 0, .nil] (Xe1.enc Xe1.d) := by
 intro j y hy
 change (Ydk _)[j]? = some y at hy
 rcases j with _ | _ | _ | _ | _ | _
 ·
  cases hy; exact ⟨_, rfl, fun _ _ _ h => h⟩
 ·
  cases hy; exact ⟨_, rfl, fun _ _ _ h => h⟩
 ·
  cases hy; exact ⟨_, rfl, fun _ _ _ h => h⟩
 ·
  cases hy; exact ⟨_, rfl, fun _ _ _ h => h⟩
 ·
  cases hy; exact ⟨_, rfl, Ypz (k := .i64) rfl⟩
 ·
  simp [Ydk] at hy
theorem Xs7 (l : List Xao) : (l.filterMap fun y => Xe1.dec (Xe1.enc y)) = l := by
 rw [show (fun y => Xe1.dec (Xe1.enc y)) = some from funext fun y => rfl]; exact List.filterMap_some
def ti3 : TI := ⟨.int .i64, 1, 8, [.int .i64 0], .ints .i64⟩
theorem Yyx : ti3.ok Tryz.prog 3 := ⟨Tryz.underlying3, ⟨Tryz.t3, _, Xdp Tryz.type3, rfl, rfl, rfl, rfl⟩, rfl, rfl, by decide, ⟨rfl, rfl⟩⟩
def ti4 : TI := ⟨.bool, 1, 1, [.bool false], .none⟩
theorem Yyy : ti4.ok Tryz.prog 4 := ⟨Tryz.underlying4, ⟨Tryz.t4, _, Xdp Tryz.type4, rfl, rfl, rfl, rfl⟩, rfl, rfl, by decide, trivial⟩
def ti5 : TI := ⟨.int .u8, 1, 1, [.int .u8 0], .ints .u8⟩
theorem Yyz : ti5.ok Tryz.prog 5 := ⟨Tryz.underlying5, ⟨Tryz.t5, _, Xdp Tryz.type5, rfl, rfl, rfl, rfl⟩, rfl, rfl, by decide, ⟨rfl, rfl⟩⟩
def ti9 : TI := ⟨.str, 1, 16, [.str ⟨#[]⟩], .row Xb9⟩
theorem Yy0 : ti9.ok Tryz.prog 9 := ⟨Tryz.underlying9, ⟨Tryz.t9, _, Xdp Tryz.type9, rfl, rfl, rfl, rfl⟩, rfl, rfl, by decide, ⟨Yj1, rfl, Ygz⟩⟩
def Yzq : TI := ⟨.slice 5, 1, 24, [.nil], .none⟩
theorem Yxo : Yzq.ok Tryz.prog 22 := ⟨Tryz.underlying22, ⟨Tryz.t22, _, Xdp Tryz.type22, rfl, rfl, rfl, rfl⟩, rfl, rfl, by decide, trivial⟩
def Yzr : TI := ⟨.slice 9, 1, 24, [.nil], .none⟩
theorem Yxp : Yzr.ok Tryz.prog 24 := ⟨Tryz.underlying24, ⟨Tryz.t24, _, Xdp Tryz.type24, rfl, rfl, rfl, rfl⟩, rfl, rfl, by decide, trivial⟩
def Yzs : TI := ⟨.slice 3, 1, 24, [.nil], .row Xo0⟩
theorem Yxq : Yzs.ok Tryz.prog 26 := ⟨Tryz.underlying26, ⟨Tryz.t26, _, Xdp Tryz.type26, rfl, rfl, rfl, rfl⟩, rfl, rfl, by decide, ⟨Yoq, rfl, Yme⟩⟩
def Yzt : TI := ⟨.struct [(0, 3, 1), (1, 3, 1), (2, 26, 1), (3, 26, 1)], 4, 64, [.int .i64 0, .int .i64 0, .nil, .nil], .none⟩
theorem Yxr : Yzt.ok Tryz.prog 29 := ⟨⟨_, Tryz.underlying29, rfl, fun w => by simp [Tryz.sizeOf26, Tryz.sizeOf3]⟩, ⟨Tryz.t29, _, Xdp Tryz.type29, rfl, rfl, rfl, rfl⟩, rfl, rfl, by decide, trivial⟩
def Yzu : TI := ⟨.struct [(0, 3, 1), (1, 4, 1), (2, 4, 1), (3, 4, 1)], 4, 16, [.int .i64 0, .bool false, .bool false, .bool false], .none⟩
theorem Yxs : Yzu.ok Tryz.prog 31 := ⟨⟨_, Tryz.underlying31, rfl, fun w => by simp [Tryz.sizeOf3, Tryz.sizeOf4]⟩, ⟨Tryz.t31, _, Xdp Tryz.type31, rfl, rfl, rfl, rfl⟩, rfl, rfl, by decide, trivial⟩
def Yzv : TI := ⟨.struct [(0, 3, 1), (1, 3, 1), (2, 9, 1)], 3, 32, [.int .i64 0, .int .i64 0, .str ⟨#[]⟩], .row Yof⟩
theorem Yxt : Yzv.ok Tryz.prog 33 := ⟨⟨_, Tryz.underlying33, rfl, fun w => by simp [Tryz.sizeOf3, Tryz.sizeOf9]⟩, ⟨Tryz.t33, _, Xdp Tryz.type33, rfl, rfl, rfl, rfl⟩, rfl, rfl, by decide, ⟨Yww, rfl, Yuw⟩⟩
def Yzw : TI := ⟨.struct [(0, 4, 1), (1, 4, 1), (2, 4, 1), (3, 29, 4), (7, 31, 4), (11, 3, 1), (12, 3, 1), (13, 33, 3), (16, 33, 3)], 19, 168, [.bool false, .bool false, .bool false, .int .i64 0, .int .i64 0, .nil, .nil, .int .i64 0, .bool false, .bool false, .bool false, .int .i64 0, .int .i64 0, .int .i64 0, .int .i64 0, .str ⟨#[]⟩, .int .i64 0, .int .i64 0, .str ⟨#[]⟩], .none⟩
theorem Yxu : Yzw.ok Tryz.prog 35 := ⟨⟨_, Tryz.underlying35, rfl, fun w => by simp [Tryz.sizeOf29, Tryz.sizeOf3, Tryz.sizeOf31, Tryz.sizeOf33, Tryz.sizeOf4]⟩, ⟨Tryz.t35, _, Xdp Tryz.type35, rfl, rfl, rfl, rfl⟩, rfl, rfl, by decide, trivial⟩
def Yzx : TI := ⟨.slice 33, 1, 24, [.nil], .none⟩
theorem Yxv : Yzx.ok Tryz.prog 36 := ⟨Tryz.underlying36, ⟨Tryz.t36, _, Xdp Tryz.type36, rfl, rfl, rfl, rfl⟩, rfl, rfl, by decide, trivial⟩
def Yzy : TI := ⟨.struct [(0, 3, 1), (1, 3, 1), (2, 3, 1)], 3, 24, [.int .i64 0, .int .i64 0, .int .i64 0], .none⟩
theorem Yxw : Yzy.ok Tryz.prog 41 := ⟨⟨_, Tryz.underlying41, rfl, fun w => by simp [Tryz.sizeOf3]⟩, ⟨Tryz.t41, _, Xdp Tryz.type41, rfl, rfl, rfl, rfl⟩, rfl, rfl, by decide, trivial⟩
def Yzz : TI := ⟨.struct [(0, 3, 1), (1, 3, 1), (2, 3, 1), (3, 3, 1)], 4, 32, [.int .i64 0, .int .i64 0, .int .i64 0, .int .i64 0], .none⟩
theorem Yxx : Yzz.ok Tryz.prog 73 := ⟨⟨_, Tryz.underlying73, rfl, fun w => by simp [Tryz.sizeOf3]⟩, ⟨Tryz.t73, _, Xdp Tryz.type73, rfl, rfl, rfl, rfl⟩, rfl, rfl, by decide, trivial⟩
def Yym : TI := ⟨.struct [(0, 4, 1), (1, 3, 1), (2, 4, 1), (3, 4, 1)], 4, 24, [.bool false, .int .i64 0, .bool false, .bool false], .none⟩
theorem Yvv : Yym.ok Tryz.prog 114 := ⟨⟨_, Tryz.underlying114, rfl, fun w => by simp [Tryz.sizeOf3, Tryz.sizeOf4]⟩, ⟨Tryz.t114, _, Xdp Tryz.type114, rfl, rfl, rfl, rfl⟩, rfl, rfl, by decide, trivial⟩
def Yyn : TI := ⟨.slice 166, 1, 24, [.nil], .none⟩
theorem Yvw : Yyn.ok Tryz.prog 115 := ⟨Tryz.underlying115, ⟨Tryz.t115, _, Xdp Tryz.type115, rfl, rfl, rfl, rfl⟩, rfl, rfl, by decide, trivial⟩
def Yyo : TI := ⟨.int .u64, 1, 8, [.int .u64 0], .ints .u64⟩
theorem Yvx : Yyo.ok Tryz.prog 138 := ⟨Tryz.underlying138, ⟨Tryz.t138, _, Xdp Tryz.type138, rfl, rfl, rfl, rfl⟩, rfl, rfl, by decide, ⟨rfl, rfl⟩⟩
def Yyp : TI := ⟨.struct [(0, 9, 1), (1, 3, 1), (2, 4, 1)], 3, 32, [.str ⟨#[]⟩, .int .i64 0, .bool false], .none⟩
theorem Yvy : Yyp.ok Tryz.prog 146 := ⟨⟨_, Tryz.underlying146, rfl, fun w => by simp [Tryz.sizeOf3, Tryz.sizeOf4, Tryz.sizeOf9]⟩, ⟨Tryz.t146, _, Xdp Tryz.type146, rfl, rfl, rfl, rfl⟩, rfl, rfl, by decide, trivial⟩
def Yyq : TI := ⟨.struct [(0, 22, 1), (1, 3, 1), (2, 3, 1)], 3, 40, [.nil, .int .i64 0, .int .i64 0], .none⟩
theorem Yvz : Yyq.ok Tryz.prog 150 := ⟨⟨_, Tryz.underlying150, rfl, fun w => by simp [Tryz.sizeOf22, Tryz.sizeOf3]⟩, ⟨Tryz.t150, _, Xdp Tryz.type150, rfl, rfl, rfl, rfl⟩, rfl, rfl, by decide, trivial⟩
def Yyr : TI := ⟨.struct [(0, 3, 1), (1, 3, 1), (2, 3, 1), (3, 3, 1), (4, 26, 1)], 5, 56, [.int .i64 0, .int .i64 0, .int .i64 0, .int .i64 0, .nil], .row Xe1⟩
theorem Yv0 : Yyr.ok Tryz.prog 166 := ⟨⟨_, Tryz.underlying166, rfl, fun w => by simp [Tryz.sizeOf26, Tryz.sizeOf3]⟩, ⟨Tryz.t166, _, Xdp Tryz.type166, rfl, rfl, rfl, rfl⟩, rfl, rfl, by decide, ⟨Yq9, rfl, Yor⟩⟩
def Yys : TI := ⟨.slice 26, 1, 24, [.nil], .none⟩
theorem Yv1 : Yys.ok Tryz.prog 185 := ⟨Tryz.underlying185, ⟨Tryz.t185, _, Xdp Tryz.type185, rfl, rfl, rfl, rfl⟩, rfl, rfl, by decide, trivial⟩
def Yyt : TI := ⟨.struct [(0, 26, 1), (1, 26, 1), (2, 3, 1)], 3, 56, [.nil, .nil, .int .i64 0], .none⟩
theorem Yv2 : Yyt.ok Tryz.prog 193 := ⟨⟨_, Tryz.underlying193, rfl, fun w => by simp [Tryz.sizeOf26, Tryz.sizeOf3]⟩, ⟨Tryz.t193, _, Xdp Tryz.type193, rfl, rfl, rfl, rfl⟩, rfl, rfl, by decide, trivial⟩
def Yyu : TI := ⟨.arr 4 3, 4, 32, [.int .i64 0, .int .i64 0, .int .i64 0, .int .i64 0], .none⟩
theorem Yv3 : Yyu.ok Tryz.prog 220 := ⟨Tryz.underlying220, ⟨Tryz.t220, _, Xdp Tryz.type220, rfl, rfl, rfl, rfl⟩, rfl, rfl, by decide, trivial⟩
def Yyv : TI := ⟨.arr 3 3, 3, 24, [.int .i64 0, .int .i64 0, .int .i64 0], .none⟩
theorem Yv4 : Yyv.ok Tryz.prog 225 := ⟨Tryz.underlying225, ⟨Tryz.t225, _, Xdp Tryz.type225, rfl, rfl, rfl, rfl⟩, rfl, rfl, by decide, trivial⟩
def Yyw : TI := ⟨.arr 6 225, 18, 144, [.int .i64 0, .int .i64 0, .int .i64 0, .int .i64 0, .int .i64 0, .int .i64 0, .int .i64 0, .int .i64 0, .int .i64 0, .int .i64 0, .int .i64 0, .int .i64 0, .int .i64 0, .int .i64 0, .int .i64 0, .int .i64 0, .int .i64 0, .int .i64 0], .none⟩
theorem Yv5 : Yyw.ok Tryz.prog 226 := ⟨Tryz.underlying226, ⟨Tryz.t226, _, Xdp Tryz.type226, rfl, rfl, rfl, rfl⟩, rfl, rfl, by decide, trivial⟩
def T : Nat → Option TI := lkT [(3, ti3), (4, ti4), (9, ti9), (5, ti5), (22, Yzq), (24, Yzr), (26, Yzs), (29, Yzt), (31, Yzu), (33, Yzv), (35, Yzw), (36, Yzx), (41, Yzy), (73, Yzz), (114, Yym), (115, Yyn), (138, Yyo), (146, Yyp), (150, Yyq), (166, Yyr), (185, Yys), (193, Yyt), (220, Yyu), (225, Yyv), (226, Yyw)]
theorem hT : TOk Tryz.prog T := Yw6 (by
 intro p hp
 simp only [List.mem_cons, List.not_mem_nil, or_false] at hp
 rcases hp with rfl | rfl | rfl | rfl | rfl | rfl | rfl | rfl | rfl | rfl | rfl | rfl | rfl | rfl | rfl | rfl | rfl | rfl | rfl | rfl | rfl | rfl | rfl | rfl | rfl
 ·
  exact Yyx
 ·
  exact Yyy
 ·
  exact Yy0
 ·
  exact Yyz
 ·
  exact Yxo
 ·
  exact Yxp
 ·
  exact Yxq
 ·
  exact Yxr
 ·
  exact Yxs
 ·
  exact Yxt
 ·
  exact Yxu
 ·
  exact Yxv
 ·
  exact Yxw
 ·
  exact Yxx
 ·
  exact Yvv
 ·
  exact Yvw
 ·
  exact Yvx
 ·
  exact Yvy
 ·
  exact Yvz
 ·
  exact Yv0
 ·
  exact Yv1
 ·
  exact Yv2
 ·
  exact Yv3
 ·
  exact Yv4
 ·
  exact Yv5)
theorem hm : Tryz.prog.follows .mixedOrders = true := by kernel_rfl
theorem Yzc (d : Nat) (w : World) (x0 y0 : Int) (x1 y1 : Bool) (x2 y2 : Bool) (x3 y3 : Bool) : (Op.equalIn (d + 2) 31 (.agg #[.int .i64 x0, .bool x1, .bool x2, .bool x3]) (.agg #[.int .i64 y0, .bool y1, .bool y2, .bool y3])).run Tryz.prog w = .ok ((x0 == y0) && ((x1 == y1) && ((x2 == y2) && (x3 == y3)))) w := by
 refine Ywe Tryz.underlying31 (by kernel_rfl) ?_
 refine Xwm (by rfl) (by go_simp; rfl) (by go_simp; rfl) (by go_simp) ?_
 refine Xwm (by rfl) (by go_simp; rfl) (by go_simp; rfl) (by go_simp) ?_
 refine Xwm (by rfl) (by go_simp; rfl) (by go_simp; rfl) (by go_simp) ?_
 exact Ypx (by rfl) (by go_simp; rfl) (by go_simp; rfl) (by go_simp)
theorem Ysp {x0 y0 : Int} {x1 y1 : Bool} {x2 y2 : Bool} {x3 y3 : Bool} : EqT Tryz.prog 31 [.int .i64 x0, .bool x1, .bool x2, .bool x3] [.int .i64 y0, .bool y1, .bool y2, .bool y3] ((x0 == y0) && ((x1 == y1) && ((x2 == y2) && (x3 == y3)))) := ⟨by kernel_rfl, rfl, rfl, fun w => Yzc 9998 w _ _ _ _ _ _ _ _⟩
theorem Yzd (d : Nat) (w : World) (x0 y0 : Int) (x1 y1 : Int) (x2 y2 : ByteArray) : (Op.equalIn (d + 2) 33 (.agg #[.int .i64 x0, .int .i64 x1, .string x2]) (.agg #[.int .i64 y0, .int .i64 y1, .string y2])).run Tryz.prog w = .ok ((x0 == y0) && ((x1 == y1) && (x2.toList == y2.toList))) w := by
 refine Ywe Tryz.underlying33 (by kernel_rfl) ?_
 refine Xwm (by rfl) (by go_simp; rfl) (by go_simp; rfl) (by go_simp) ?_
 refine Xwm (by rfl) (by go_simp; rfl) (by go_simp; rfl) (by go_simp) ?_
 exact Ypx (by rfl) (by go_simp; rfl) (by go_simp; rfl) (by go_simp)
theorem Yad {x0 y0 : Int} {x1 y1 : Int} {x2 y2 : ByteArray} : EqT Tryz.prog 33 [.int .i64 x0, .int .i64 x1, .str x2] [.int .i64 y0, .int .i64 y1, .str y2] ((x0 == y0) && ((x1 == y1) && (x2.toList == y2.toList))) := ⟨by kernel_rfl, rfl, rfl, fun w => Yzd 9998 w _ _ _ _ _ _⟩
end Go.Proofs.YtnhflbeahbcklaaGreat.A
