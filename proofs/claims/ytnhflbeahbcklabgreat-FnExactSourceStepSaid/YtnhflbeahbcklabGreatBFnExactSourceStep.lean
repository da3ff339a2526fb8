/- The types of the program, as the abstract logic reads them. Written by a program of this session. Conditions: none. -/
import Derived.Test.YtnhflbeahbcklabGreatDFnExactSourceStep
import Derived.Test.YtnhflbeahbcklabGreatRows
import Derived.KernelRfl
namespace Go.Proofs.YtnhflbeahbcklabGreat.A
open Go Go.Proofs Go.Proofs.YtnhflbeahbcklabGreatAL Go.RowKit
set_option linter.unusedVariables false
set_option linter.unusedSimpArgs false
def Xro (x : ByteArray) : List SV := [.str x]
def Yd1 : List SV → Option ByteArray
 | [x0] => (match gS x0 with | some a0 => some a0 | _ => none)
 | _ => none
abbrev Xa7 : Xx6 := ⟨ByteArray, Xv8, 1, Xro, Yd1⟩
theorem Yrq : Xa7.ok := by
 refine ⟨fun _ => rfl, by decide, fun cs x h => ?_⟩
 change Yd1 cs = some x at h
 unfold Yd1 at h
 split at h
 ·
  split at h
  ·
   cases h
   refine ⟨rfl, fun j y hy => ?_⟩
   change (Xro _)[j]? = some y at hy
   rcases j with _ | _
   ·
    cases hy; exact ⟨_, rfl, Zfs (by assumption)⟩
   ·
    simp [Xro] at hy
  ·
   cases h
 ·
  cases h
theorem Ynr : Ye4 [.str ⟨#[]⟩] (Xa7.enc Xa7.d) := by
 intro j y hy
 change (Xro _)[j]? = some y at hy
 rcases j with _ | _
 ·
  cases hy; exact ⟨_, rfl, fun _ _ _ h => h⟩
 ·
  simp [Xro] at hy
theorem Xoo (l : List ByteArray) : (l.filterMap fun y => Xa7.dec (Xa7.enc y)) = l := by
 rw [show (fun y => Xa7.dec (Xa7.enc y)) = some from funext fun y => rfl]; exact List.filterMap_some
def Xzy (x : (List Int)) : List SV := [.ints .i64 x]
def Ys6 : List SV → Option (List Int)
 | [x0] => (match gL .i64 x0 with | some a0 => some a0 | _ => none)
 | _ => none
abbrev Xqj : Xx6 := ⟨(List Int), Xgn, 1, Xzy, Ys6⟩
theorem Ywd : Xqj.ok := by
 refine ⟨fun _ => rfl, by decide, fun cs x h => ?_⟩
 change Ys6 cs = some x at h
 unfold Ys6 at h
 split at h
 ·
  split at h
  ·
   cases h
   refine ⟨rfl, fun j y hy => ?_⟩
   change (Xzy _)[j]? = some y at hy
   rcases j with _ | _
   ·
    cases hy; exact ⟨_, rfl, Yxm (by assumption)⟩
   ·
    simp [Xzy] at hy
  ·
   cases h
 ·
  cases h
theorem Yuc : Ye4 [.nil] (Xqj.enc Xqj.d) := by
 intro j y hy
 change (Xzy _)[j]? = some y at hy
 rcases j with _ | _
 ·
  cases hy; exact ⟨_, rfl, Yxm (k := .i64) rfl⟩
 ·
  simp [Xzy] at hy
theorem Zee (l : List (List Int)) : (l.filterMap fun y => Xqj.dec (Xqj.enc y)) = l := by
 rw [show (fun y => Xqj.dec (Xqj.enc y)) = some from funext fun y => rfl]; exact List.filterMap_some
def Yjd (x : Xau) : List SV := [.int .i64 x.Kind, .int .i64 x.Mode, .int .i64 x.Dx, .int .i64 x.Dy, .ints .i64 x.Levels]
def Ywy : List SV → Option Xau
 | [x0, x1, x2, x3, x4] => (match gI .i64 x0, gI .i64 x1, gI .i64 x2, gI .i64 x3, gL .i64 x4 with | some a0, some a1, some a2, some a3, some a4 => some ⟨a0, a1, a2, a3, a4⟩ | _, _, _, _, _ => none)
 | _ => none
abbrev Xda : Xx6 := ⟨Xau, Xmg, 5, Yjd, Ywy⟩
theorem Yy6 : Xda.ok := by
 refine ⟨fun _ => rfl, by decide, fun cs x h => ?_⟩
 change Ywy cs = some x at h
 unfold Ywy at h
 split at h
 ·
  split at h
  ·
   cases h
   refine ⟨rfl, fun j y hy => ?_⟩
   change (Yjd _)[j]? = some y at hy
   rcases j with _ | _ | _ | _ | _ | _
   ·
    cases hy; exact ⟨_, rfl, Yxl (by assumption)⟩
   ·
    cases hy; exact ⟨_, rfl, Yxl (by assumption)⟩
   ·
    cases hy; exact ⟨_, rfl, Yxl (by assumption)⟩
   ·
    cases hy; exact ⟨_, rfl, Yxl (by assumption)⟩
   ·
    cases hy; exact ⟨_, rfl, Yxm (by assumption)⟩
   ·
    simp [Yjd] at hy
  ·
   cases h
 ·
  cases h
theorem Ywe : Ye4 [.int .i64 0, .int .i64 0, .int .i64 0, .int .i64 0, .nil] (Xda.enc Xda.d) := by
 intro j y hy
 change (Yjd _)[j]? = some y at hy
 rcases j with _ | _ | _ | _ | _ | _
 ·
  cases hy; exact ⟨_, rfl, fun _ _ _ h => h⟩
 ·
  cases hy; exact ⟨_, rfl, fun _ _ _ h => h⟩
 ·
  cases hy; exact ⟨_, rfl, fun _ _ _ h => h⟩
 ·
  cases hy; exact ⟨_, rfl, fun _ _ _ h => h⟩
 ·
  cases hy; exact ⟨_, rfl, Yxm (k := .i64) rfl⟩
 ·
  simp [Yjd] at hy
theorem Xv6 (l : List Xau) : (l.filterMap fun y => Xda.dec (Xda.enc y)) = l := by
 rw [show (fun y => Xda.dec (Xda.enc y)) = some from funext fun y => rfl]; exact List.filterMap_some
def ti3 : TI := ⟨.int .i64, 1, 8, [.int .i64 0], .ints .i64⟩
theorem Zge : ti3.ok Tryz.prog 3 := ⟨Tryz.underlying3, ⟨Tryz.t3, _, Xct Tryz.type3, rfl, rfl, rfl, rfl⟩, rfl, rfl, by decide, ⟨rfl, rfl⟩⟩
def ti4 : TI := ⟨.bool, 1, 1, [.bool false], .none⟩
theorem Zgf : ti4.ok Tryz.prog 4 := ⟨Tryz.underlying4, ⟨Tryz.t4, _, Xct Tryz.type4, rfl, rfl, rfl, rfl⟩, rfl, rfl, by decide, trivial⟩
def ti5 : TI := ⟨.int .u8, 1, 1, [.int .u8 0], .ints .u8⟩
theorem Zgg : ti5.ok Tryz.prog 5 := ⟨Tryz.underlying5, ⟨Tryz.t5, _, Xct Tryz.type5, rfl, rfl, rfl, rfl⟩, rfl, rfl, by decide, ⟨rfl, rfl⟩⟩
def ti9 : TI := ⟨.str, 1, 16, [.str ⟨#[]⟩], .row Xa7⟩
theorem Zgh : ti9.ok Tryz.prog 9 := ⟨Tryz.underlying9, ⟨Tryz.t9, _, Xct Tryz.type9, rfl, rfl, rfl, rfl⟩, rfl, rfl, by decide, ⟨Yrq, rfl, Ynr⟩⟩
def Zg6 : TI := ⟨.slice 5, 1, 24, [.nil], .none⟩
theorem Ze3 : Zg6.ok Tryz.prog 22 := ⟨Tryz.underlying22, ⟨Tryz.t22, _, Xct Tryz.type22, rfl, rfl, rfl, rfl⟩, rfl, rfl, by decide, trivial⟩
def Zg7 : TI := ⟨.slice 9, 1, 24, [.nil], .none⟩
theorem Ze4 : Zg7.ok Tryz.prog 24 := ⟨Tryz.underlying24, ⟨Tryz.t24, _, Xct Tryz.type24, rfl, rfl, rfl, rfl⟩, rfl, rfl, by decide, trivial⟩
def Zg8 : TI := ⟨.slice 3, 1, 24, [.nil], .row Xqj⟩
theorem Ze5 : Zg8.ok Tryz.prog 29 := ⟨Tryz.underlying29, ⟨Tryz.t29, _, Xct Tryz.type29, rfl, rfl, rfl, rfl⟩, rfl, rfl, by decide, ⟨Ywd, rfl, Yuc⟩⟩
def Zg9 : TI := ⟨.struct [(0, 3, 1), (1, 3, 1), (2, 29, 1), (3, 29, 1)], 4, 64, [.int .i64 0, .int .i64 0, .nil, .nil], .none⟩
theorem Ze6 : Zg9.ok Tryz.prog 33 := ⟨⟨_, Tryz.underlying33, rfl, fun w => by simp [Tryz.sizeOf29, Tryz.sizeOf3]⟩, ⟨Tryz.t33, _, Xct Tryz.type33, rfl, rfl, rfl, rfl⟩, rfl, rfl, by decide, trivial⟩
def Zha : TI := ⟨.struct [(0, 3, 1), (1, 4, 1), (2, 4, 1), (3, 4, 1)], 4, 16, [.int .i64 0, .bool false, .bool false, .bool false], .none⟩
theorem Ze7 : Zha.ok Tryz.prog 35 := ⟨⟨_, Tryz.underlying35, rfl, fun w => by simp [Tryz.sizeOf3, Tryz.sizeOf4]⟩, ⟨Tryz.t35, _, Xct Tryz.type35, rfl, rfl, rfl, rfl⟩, rfl, rfl, by decide, trivial⟩
def Zhb : TI := ⟨.struct [(0, 3, 1), (1, 3, 1), (2, 9, 1)], 3, 32, [.int .i64 0, .int .i64 0, .str ⟨#[]⟩], .none⟩
theorem Ze8 : Zhb.ok Tryz.prog 37 := ⟨⟨_, Tryz.underlying37, rfl, fun w => by simp [Tryz.sizeOf3, Tryz.sizeOf9]⟩, ⟨Tryz.t37, _, Xct Tryz.type37, rfl, rfl, rfl, rfl⟩, rfl, rfl, by decide, trivial⟩
def Zhc : TI := ⟨.struct [(0, 3, 1), (1, 3, 1), (2, 3, 1)], 3, 24, [.int .i64 0, .int .i64 0, .int .i64 0], .none⟩
theorem Ze9 : Zhc.ok Tryz.prog 46 := ⟨⟨_, Tryz.underlying46, rfl, fun w => by simp [Tryz.sizeOf3]⟩, ⟨Tryz.t46, _, Xct Tryz.type46, rfl, rfl, rfl, rfl⟩, rfl, rfl, by decide, trivial⟩
def Zhd : TI := ⟨.struct [(0, 33, 4), (4, 35, 4), (8, 46, 3), (11, 3, 1), (12, 3, 1), (13, 3, 1), (14, 3, 1), (15, 4, 1), (16, 37, 3)], 19, 176, [.int .i64 0, .int .i64 0, .nil, .nil, .int .i64 0, .bool false, .bool false, .bool false, .int .i64 0, .int .i64 0, .int .i64 0, .int .i64 0, .int .i64 0, .int .i64 0, .int .i64 0, .bool false, .int .i64 0, .int .i64 0, .str ⟨#[]⟩], .none⟩
theorem Zfa : Zhd.ok Tryz.prog 48 := ⟨⟨_, Tryz.underlying48, rfl, fun w => by simp [Tryz.sizeOf3, Tryz.sizeOf33, Tryz.sizeOf35, Tryz.sizeOf37, Tryz.sizeOf4, Tryz.sizeOf46]⟩, ⟨Tryz.t48, _, Xct Tryz.type48, rfl, rfl, rfl, rfl⟩, rfl, rfl, by decide, trivial⟩
def Zhe : TI := ⟨.struct [(0, 3, 1), (1, 3, 1), (2, 29, 1), (3, 29, 1)], 4, 64, [.int .i64 0, .int .i64 0, .nil, .nil], .none⟩
theorem Zfb : Zhe.ok Tryz.prog 62 := ⟨⟨_, Tryz.underlying62, rfl, fun w => by simp [Tryz.sizeOf29, Tryz.sizeOf3]⟩, ⟨Tryz.t62, _, Xct Tryz.type62, rfl, rfl, rfl, rfl⟩, rfl, rfl, by decide, trivial⟩
def Zhf : TI := ⟨.struct [(0, 3, 1), (1, 4, 1), (2, 4, 1), (3, 4, 1)], 4, 16, [.int .i64 0, .bool false, .bool false, .bool false], .none⟩
theorem Zfc : Zhf.ok Tryz.prog 63 := ⟨⟨_, Tryz.underlying63, rfl, fun w => by simp [Tryz.sizeOf3, Tryz.sizeOf4]⟩, ⟨Tryz.t63, _, Xct Tryz.type63, rfl, rfl, rfl, rfl⟩, rfl, rfl, by decide, trivial⟩
def Zhg : TI := ⟨.struct [(0, 3, 1), (1, 3, 1), (2, 3, 1)], 3, 24, [.int .i64 0, .int .i64 0, .int .i64 0], .none⟩
theorem Zfd : Zhg.ok Tryz.prog 64 := ⟨⟨_, Tryz.underlying64, rfl, fun w => by simp [Tryz.sizeOf3]⟩, ⟨Tryz.t64, _, Xct Tryz.type64, rfl, rfl, rfl, rfl⟩, rfl, rfl, by decide, trivial⟩
def Zhh : TI := ⟨.struct [(0, 3, 1), (1, 3, 1), (2, 9, 1)], 3, 32, [.int .i64 0, .int .i64 0, .str ⟨#[]⟩], .none⟩
theorem Zfe : Zhh.ok Tryz.prog 65 := ⟨⟨_, Tryz.underlying65, rfl, fun w => by simp [Tryz.sizeOf3, Tryz.sizeOf9]⟩, ⟨Tryz.t65, _, Xct Tryz.type65, rfl, rfl, rfl, rfl⟩, rfl, rfl, by decide, trivial⟩
def Zhi : TI := ⟨.struct [(0, 62, 4), (4, 63, 4), (8, 64, 3), (11, 3, 1), (12, 3, 1), (13, 3, 1), (14, 3, 1), (15, 4, 1), (16, 65, 3)], 19, 176, [.int .i64 0, .int .i64 0, .nil, .nil, .int .i64 0, .bool false, .bool false, .bool false, .int .i64 0, .int .i64 0, .int .i64 0, .int .i64 0, .int .i64 0, .int .i64 0, .int .i64 0, .bool false, .int .i64 0, .int .i64 0, .str ⟨#[]⟩], .none⟩
theorem Zff : Zhi.ok Tryz.prog 67 := ⟨⟨_, Tryz.underlying67, rfl, fun w => by simp [Tryz.sizeOf3, Tryz.sizeOf4, Tryz.sizeOf62, Tryz.sizeOf63, Tryz.sizeOf64, Tryz.sizeOf65]⟩, ⟨Tryz.t67, _, Xct Tryz.type67, rfl, rfl, rfl, rfl⟩, rfl, rfl, by decide, trivial⟩
def Zf3 : TI := ⟨.struct [(0, 4, 1), (1, 3, 1), (2, 4, 1), (3, 4, 1)], 4, 24, [.bool false, .int .i64 0, .bool false, .bool false], .none⟩
theorem Zdd : Zf3.ok Tryz.prog 112 := ⟨⟨_, Tryz.underlying112, rfl, fun w => by simp [Tryz.sizeOf3, Tryz.sizeOf4]⟩, ⟨Tryz.t112, _, Xct Tryz.type112, rfl, rfl, rfl, rfl⟩, rfl, rfl, by decide, trivial⟩
def Zf4 : TI := ⟨.slice 172, 1, 24, [.nil], .none⟩
theorem Zde : Zf4.ok Tryz.prog 113 := ⟨Tryz.underlying113, ⟨Tryz.t113, _, Xct Tryz.type113, rfl, rfl, rfl, rfl⟩, rfl, rfl, by decide, trivial⟩
def Zf5 : TI := ⟨.struct [(0, 3, 1), (1, 3, 1), (2, 3, 1)], 3, 24, [.int .i64 0, .int .i64 0, .int .i64 0], .none⟩
theorem Zdf : Zf5.ok Tryz.prog 118 := ⟨⟨_, Tryz.underlying118, rfl, fun w => by simp [Tryz.sizeOf3]⟩, ⟨Tryz.t118, _, Xct Tryz.type118, rfl, rfl, rfl, rfl⟩, rfl, rfl, by decide, trivial⟩
def Zf6 : TI := ⟨.int .u64, 1, 8, [.int .u64 0], .ints .u64⟩
theorem Zdg : Zf6.ok Tryz.prog 132 := ⟨Tryz.underlying132, ⟨Tryz.t132, _, Xct Tryz.type132, rfl, rfl, rfl, rfl⟩, rfl, rfl, by decide, ⟨rfl, rfl⟩⟩
def Zf7 : TI := ⟨.struct [(0, 3, 1), (1, 3, 1), (2, 3, 1), (3, 3, 1), (4, 29, 1)], 5, 56, [.int .i64 0, .int .i64 0, .int .i64 0, .int .i64 0, .nil], .row Xda⟩
theorem Zdh : Zf7.ok Tryz.prog 172 := ⟨⟨_, Tryz.underlying172, rfl, fun w => by simp [Tryz.sizeOf29, Tryz.sizeOf3]⟩, ⟨Tryz.t172, _, Xct Tryz.type172, rfl, rfl, rfl, rfl⟩, rfl, rfl, by decide, ⟨Yy6, rfl, Ywe⟩⟩
def Zf8 : TI := ⟨.struct [(0, 3, 1), (1, 3, 1), (2, 3, 1), (3, 3, 1)], 4, 32, [.int .i64 0, .int .i64 0, .int .i64 0, .int .i64 0], .none⟩
theorem Zdi : Zf8.ok Tryz.prog 199 := ⟨⟨_, Tryz.underlying199, rfl, fun w => by simp [Tryz.sizeOf3]⟩, ⟨Tryz.t199, _, Xct Tryz.type199, rfl, rfl, rfl, rfl⟩, rfl, rfl, by decide, trivial⟩
def Zf9 : TI := ⟨.struct [(0, 29, 1), (1, 29, 1), (2, 3, 1)], 3, 56, [.nil, .nil, .int .i64 0], .none⟩
theorem Zdj : Zf9.ok Tryz.prog 217 := ⟨⟨_, Tryz.underlying217, rfl, fun w => by simp [Tryz.sizeOf29, Tryz.sizeOf3]⟩, ⟨Tryz.t217, _, Xct Tryz.type217, rfl, rfl, rfl, rfl⟩, rfl, rfl, by decide, trivial⟩
def Zga : TI := ⟨.slice 29, 1, 24, [.nil], .none⟩
theorem Zdk : Zga.ok Tryz.prog 233 := ⟨Tryz.underlying233, ⟨Tryz.t233, _, Xct Tryz.type233, rfl, rfl, rfl, rfl⟩, rfl, rfl, by decide, trivial⟩
def Zgb : TI := ⟨.arr 4 3, 4, 32, [.int .i64 0, .int .i64 0, .int .i64 0, .int .i64 0], .none⟩
theorem Zdl : Zgb.ok Tryz.prog 254 := ⟨Tryz.underlying254, ⟨Tryz.t254, _, Xct Tryz.type254, rfl, rfl, rfl, rfl⟩, rfl, rfl, by decide, trivial⟩
def Zgc : TI := ⟨.arr 3 3, 3, 24, [.int .i64 0, .int .i64 0, .int .i64 0], .none⟩
theorem Zdm : Zgc.ok Tryz.prog 260 := ⟨Tryz.underlying260, ⟨Tryz.t260, _, Xct Tryz.type260, rfl, rfl, rfl, rfl⟩, rfl, rfl, by decide, trivial⟩
def Zgd : TI := ⟨.arr 6 260, 18, 144, [.int .i64 0, .int .i64 0, .int .i64 0, .int .i64 0, .int .i64 0, .int .i64 0, .int .i64 0, .int .i64 0, .int .i64 0, .int .i64 0, .int .i64 0, .int .i64 0, .int .i64 0, .int .i64 0, .int .i64 0, .int .i64 0, .int .i64 0, .int .i64 0], .none⟩
theorem Zdn : Zgd.ok Tryz.prog 261 := ⟨Tryz.underlying261, ⟨Tryz.t261, _, Xct Tryz.type261, rfl, rfl, rfl, rfl⟩, rfl, rfl, by decide, trivial⟩
def T : Nat → Option TI := lkT [(3, ti3), (4, ti4), (9, ti9), (5, ti5), (22, Zg6), (24, Zg7), (29, Zg8), (33, Zg9), (35, Zha), (37, Zhb), (46, Zhc), (48, Zhd), (62, Zhe), (63, Zhf), (64, Zhg), (65, Zhh), (67, Zhi), (112, Zf3), (113, Zf4), (118, Zf5), (132, Zf6), (172, Zf7), (199, Zf8), (217, Zf9), (233, Zga), (254, Zgb), (260, Zgc), (261, Zgd)]
theorem hT : TOk Tryz.prog T := Zen (by
 intro p hp
 simp only [List.mem_cons, List.not_mem_nil, or_false] at hp
 rcases hp with rfl | rfl | rfl | rfl | rfl | rfl | rfl | rfl | rfl | rfl | rfl | rfl | rfl | rfl | rfl | rfl | rfl | rfl | rfl | rfl | rfl | rfl | rfl | rfl | rfl | rfl | rfl | rfl
 ·
  exact Zge
 ·
  exact Zgf
 ·
  exact Zgh
 ·
  exact Zgg
 ·
  exact Ze3
 ·
  exact Ze4
 ·
  exact Ze5
 ·
  exact Ze6
 ·
  exact Ze7
 ·
  exact Ze8
 ·
  exact Ze9
 ·
  exact Zfa
 ·
  exact Zfb
 ·
  exact Zfc
 ·
  exact Zfd
 ·
  exact Zfe
 ·
  exact Zff
 ·
  exact Zdd
 ·
  exact Zde
 ·
  exact Zdf
 ·
  exact Zdg
 ·
  exact Zdh
 ·
  exact Zdi
 ·
  exact Zdj
 ·
  exact Zdk
 ·
  exact Zdl
 ·
  exact Zdm
 ·
  exact Zdn)
theorem hm : Tryz.prog.follows .mixedOrders = true := by kernel_rfl
theorem Zgy (d : Nat) (w : World) (x0 y0 : Int) (x1 y1 : Int) (x2 y2 : ByteArray) : (Op.equalIn (d + 2) 37 (.agg #[.int .i64 x0, .int .i64 x1, .string x2]) (.agg #[.int .i64 y0, .int .i64 y1, .string y2])).run Tryz.prog w = .ok ((x0 == y0) && ((x1 == y1) && (x2.toList == y2.toList))) w := by
 refine Zfp Tryz.underlying37 (by kernel_rfl) ?_
 refine Yxj (by rfl) (by go_simp; rfl) (by go_simp; rfl) (by go_simp) ?_
 refine Yxj (by rfl) (by go_simp; rfl) (by go_simp; rfl) (by go_simp) ?_
 exact Zci (by rfl) (by go_simp; rfl) (by go_simp; rfl) (by go_simp)
theorem Zfq {x0 y0 : Int} {x1 y1 : Int} {x2 y2 : ByteArray} : EqT Tryz.prog 37 [.int .i64 x0, .int .i64 x1, .str x2] [.int .i64 y0, .int .i64 y1, .str y2] ((x0 == y0) && ((x1 == y1) && (x2.toList == y2.toList))) := ⟨by kernel_rfl, rfl, rfl, fun w => Zgy 9998 w _ _ _ _ _ _⟩
end Go.Proofs.YtnhflbeahbcklabGreat.A
