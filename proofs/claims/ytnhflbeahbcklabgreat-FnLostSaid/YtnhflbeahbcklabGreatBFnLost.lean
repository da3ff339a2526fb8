/- The types of the program, as the abstract logic reads them. Written by a program of this session. Conditions: none. -/
import Derived.Test.YtnhflbeahbcklabGreatDFnLost
import Derived.Test.YtnhflbeahbcklabGreatRows
import Derived.KernelRfl
namespace Go.Proofs.YtnhflbeahbcklabGreat.A
open Go Go.Proofs Go.Proofs.YtnhflbeahbcklabGreatAL Go.RowKit
set_option linter.unusedVariables false
set_option linter.unusedSimpArgs false
def Yvn (x : Bool) : List SV := [.bool x]
def Zaj : List SV → Option Bool
 | [x0] => (match gB x0 with | some a0 => some a0 | _ => none)
 | _ => none
abbrev Yav : Xtm := ⟨Bool, Yvl, 1, Yvn, Zaj⟩
theorem Yxv : Yav.ok := by
 refine ⟨fun _ => rfl, by decide, fun cs x h => ?_⟩
 change Zaj cs = some x at h
 unfold Zaj at h
 split at h
 ·
  split at h
  ·
   cases h
   refine ⟨rfl, fun j y hy => ?_⟩
   change (Yvn _)[j]? = some y at hy
   rcases j with _ | _
   ·
    cases hy; exact ⟨_, rfl, Zbm (by assumption)⟩
   ·
    simp [Yvn] at hy
  ·
   cases h
 ·
  cases h
theorem Yvg : Xv0 [.bool false] (Yav.enc Yav.d) := by
 intro j y hy
 change (Yvn _)[j]? = some y at hy
 rcases j with _ | _
 ·
  cases hy; exact ⟨_, rfl, fun _ _ _ h => h⟩
 ·
  simp [Yvn] at hy
theorem Ysf (l : List Bool) : (l.filterMap fun y => Yav.dec (Yav.enc y)) = l := by
 rw [show (fun y => Yav.dec (Yav.enc y)) = some from funext fun y => rfl]; exact List.filterMap_some
def Xqz (x : ByteArray) : List SV := [.str x]
def Yb1 : List SV → Option ByteArray
 | [x0] => (match gS x0 with | some a0 => some a0 | _ => none)
 | _ => none
abbrev Xbp : Xtm := ⟨ByteArray, Xbx, 1, Xqz, Yb1⟩
theorem Ymm : Xbp.ok := by
 refine ⟨fun _ => rfl, by decide, fun cs x h => ?_⟩
 change Yb1 cs = some x at h
 unfold Yb1 at h
 split at h
 ·
  split at h
  ·
   cases h
   refine ⟨rfl, fun j y hy => ?_⟩
   change (Xqz _)[j]? = some y at hy
   rcases j with _ | _
   ·
    cases hy; exact ⟨_, rfl, Yzj (by assumption)⟩
   ·
    simp [Xqz] at hy
  ·
   cases h
 ·
  cases h
theorem Yjp : Xv0 [.str ⟨#[]⟩] (Xbp.enc Xbp.d) := by
 intro j y hy
 change (Xqz _)[j]? = some y at hy
 rcases j with _ | _
 ·
  cases hy; exact ⟨_, rfl, fun _ _ _ h => h⟩
 ·
  simp [Xqz] at hy
theorem Xep (l : List ByteArray) : (l.filterMap fun y => Xbp.dec (Xbp.enc y)) = l := by
 rw [show (fun y => Xbp.dec (Xbp.enc y)) = some from funext fun y => rfl]; exact List.filterMap_some
def Xyf (x : (List Int)) : List SV := [.ints .i64 x]
def Ynu : List SV → Option (List Int)
 | [x0] => (match gL .i64 x0 with | some a0 => some a0 | _ => none)
 | _ => none
abbrev Xpy : Xtm := ⟨(List Int), Xf6, 1, Xyf, Ynu⟩
theorem Yq8 : Xpy.ok := by
 refine ⟨fun _ => rfl, by decide, fun cs x h => ?_⟩
 change Ynu cs = some x at h
 unfold Ynu at h
 split at h
 ·
  split at h
  ·
   cases h
   refine ⟨rfl, fun j y hy => ?_⟩
   change (Xyf _)[j]? = some y at hy
   rcases j with _ | _
   ·
    cases hy; exact ⟨_, rfl, Ysm (by assumption)⟩
   ·
    simp [Xyf] at hy
  ·
   cases h
 ·
  cases h
theorem Yo4 : Xv0 [.nil] (Xpy.enc Xpy.d) := by
 intro j y hy
 change (Xyf _)[j]? = some y at hy
 rcases j with _ | _
 ·
  cases hy; exact ⟨_, rfl, Ysm (k := .i64) rfl⟩
 ·
  simp [Xyf] at hy
theorem Yz4 (l : List (List Int)) : (l.filterMap fun y => Xpy.dec (Xpy.enc y)) = l := by
 rw [show (fun y => Xpy.dec (Xpy.enc y)) = some from funext fun y => rfl]; exact List.filterMap_some
def Zbj (x : Pic) : List SV := [.int .i64 x.Wide, .int .i64 x.High, .str x.Dots]
def Zcz : List SV → Option Pic
 | [x0, x1, x2] => (match gI .i64 x0, gI .i64 x1, gS x2 with | some a0, some a1, some a2 => some ⟨a0, a1, a2⟩ | _, _, _ => none)
 | _ => none
abbrev Yt1 : Xtm := ⟨Pic, Yvm, 3, Zbj, Zcz⟩
theorem Yz5 : Yt1.ok := by
 refine ⟨fun _ => rfl, by decide, fun cs x h => ?_⟩
 change Zcz cs = some x at h
 unfold Zcz at h
 split at h
 ·
  split at h
  ·
   cases h
   refine ⟨rfl, fun j y hy => ?_⟩
   change (Zbj _)[j]? = some y at hy
   rcases j with _ | _ | _ | _
   ·
    cases hy; exact ⟨_, rfl, Yls (by assumption)⟩
   ·
    cases hy; exact ⟨_, rfl, Yls (by assumption)⟩
   ·
    cases hy; exact ⟨_, rfl, Yzj (by assumption)⟩
   ·
    simp [Zbj] at hy
  ·
   cases h
 ·
  cases h
theorem Yxw : Xv0 [.int .i64 0, .int .i64 0, .str ⟨#[]⟩] (Yt1.enc Yt1.d) := by
 intro j y hy
 change (Zbj _)[j]? = some y at hy
 rcases j with _ | _ | _ | _
 ·
  cases hy; exact ⟨_, rfl, fun _ _ _ h => h⟩
 ·
  cases hy; exact ⟨_, rfl, fun _ _ _ h => h⟩
 ·
  cases hy; exact ⟨_, rfl, fun _ _ _ h => h⟩
 ·
  simp [Zbj] at hy
theorem Yvh (l : List Pic) : (l.filterMap fun y => Yt1.dec (Yt1.enc y)) = l := by
 rw [show (fun y => Yt1.dec (Yt1.enc y)) = some from funext fun y => rfl]; exact List.filterMap_some
def Ygb (x : Xam) : List SV := [.int .i64 x.Kind, .int .i64 x.Mode, .int .i64 x.Dx, .int .i64 x.Dy, .ints .i64 x.Levels]
def Yru : List SV → Option Xam
 | [x0, x1, x2, x3, x4] => (match gI .i64 x0, gI .i64 x1, gI .i64 x2, gI .i64 x3, gL .i64 x4 with | some a0, some a1, some a2, some a3, some a4 => some ⟨a0, a1, a2, a3, a4⟩ | _, _, _, _, _ => none)
 | _ => none
abbrev Xdf : Xtm := ⟨Xam, Xw4, 5, Ygb, Yru⟩
theorem Yt2 : Xdf.ok := by
 refine ⟨fun _ => rfl, by decide, fun cs x h => ?_⟩
 change Yru cs = some x at h
 unfold Yru at h
 split at h
 ·
  split at h
  ·
   cases h
   refine ⟨rfl, fun j y hy => ?_⟩
   change (Ygb _)[j]? = some y at hy
   rcases j with _ | _ | _ | _ | _ | _
   ·
    cases hy; exact ⟨_, rfl, Yls (by assumption)⟩
   ·
    cases hy; exact ⟨_, rfl, Yls (by assumption)⟩
   ·
    cases hy; exact ⟨_, rfl, Yls (by assumption)⟩
   ·
    cases hy; exact ⟨_, rfl, Yls (by assumption)⟩
   ·
    cases hy; exact ⟨_, rfl, Ysm (by assumption)⟩
   ·
    simp [Ygb] at hy
  ·
   cases h
 ·
  cases h
theorem Yq9 : Xv0 [.int .i64 0, .int .i64 0, .int .i64 0, .int .i64 0, .nil] (Xdf.enc Xdf.d) := by
 intro j y hy
 change (Ygb _)[j]? = some y at hy
 rcases j with _ | _ | _ | _ | _ | _
 ·
  cases hy; exact ⟨_, rfl, fun _ _ _ h => h⟩
 ·
  cases hy; exact ⟨_, rfl, fun _ _ _ h => h⟩
 ·
  cases hy; exact ⟨_, rfl, fun _ _ _ h => h⟩
 ·
  cases hy; exact ⟨_, rfl, fun _ _ _ h => h⟩
 ·
  cases hy; exact ⟨_, rfl, Ysm (k := .i64) rfl⟩
 ·
  simp [Ygb] at hy
theorem Xu5 (l : List Xam) : (l.filterMap fun y => Xdf.dec (Xdf.enc y)) = l := by
 rw [show (fun y => Xdf.dec (Xdf.enc y)) = some from funext fun y => rfl]; exact List.filterMap_some
def ti3 : TI := ⟨.int .i64, 1, 8, [.int .i64 0], .ints .i64⟩
theorem Zcb : ti3.ok Tryz.prog 3 := ⟨Tryz.underlying3, ⟨Tryz.t3, _, Xci Tryz.type3, rfl, rfl, rfl, rfl⟩, rfl, rfl, by decide, ⟨rfl, rfl⟩⟩
def ti4 : TI := ⟨.bool, 1, 1, [.bool false], .row Yav⟩
theorem Zcc : ti4.ok Tryz.prog 4 := ⟨Tryz.underlying4, ⟨Tryz.t4, _, Xci Tryz.type4, rfl, rfl, rfl, rfl⟩, rfl, rfl, by decide, ⟨Yxv, rfl, Yvg⟩⟩
def ti5 : TI := ⟨.int .u8, 1, 1, [.int .u8 0], .ints .u8⟩
theorem Zcd : ti5.ok Tryz.prog 5 := ⟨Tryz.underlying5, ⟨Tryz.t5, _, Xci Tryz.type5, rfl, rfl, rfl, rfl⟩, rfl, rfl, by decide, ⟨rfl, rfl⟩⟩
def ti9 : TI := ⟨.str, 1, 16, [.str ⟨#[]⟩], .row Xbp⟩
theorem Zce : ti9.ok Tryz.prog 9 := ⟨Tryz.underlying9, ⟨Tryz.t9, _, Xci Tryz.type9, rfl, rfl, rfl, rfl⟩, rfl, rfl, by decide, ⟨Ymm, rfl, Yjp⟩⟩
def Zc4 : TI := ⟨.slice 5, 1, 24, [.nil], .none⟩
theorem Zaw : Zc4.ok Tryz.prog 22 := ⟨Tryz.underlying22, ⟨Tryz.t22, _, Xci Tryz.type22, rfl, rfl, rfl, rfl⟩, rfl, rfl, by decide, trivial⟩
def Zc5 : TI := ⟨.slice 9, 1, 24, [.nil], .none⟩
theorem Zax : Zc5.ok Tryz.prog 24 := ⟨Tryz.underlying24, ⟨Tryz.t24, _, Xci Tryz.type24, rfl, rfl, rfl, rfl⟩, rfl, rfl, by decide, trivial⟩
def Zc6 : TI := ⟨.slice 37, 1, 24, [.nil], .none⟩
theorem Zay : Zc6.ok Tryz.prog 28 := ⟨Tryz.underlying28, ⟨Tryz.t28, _, Xci Tryz.type28, rfl, rfl, rfl, rfl⟩, rfl, rfl, by decide, trivial⟩
def Zc7 : TI := ⟨.slice 3, 1, 24, [.nil], .row Xpy⟩
theorem Zaz : Zc7.ok Tryz.prog 29 := ⟨Tryz.underlying29, ⟨Tryz.t29, _, Xci Tryz.type29, rfl, rfl, rfl, rfl⟩, rfl, rfl, by decide, ⟨Yq8, rfl, Yo4⟩⟩
def Zc8 : TI := ⟨.struct [(0, 3, 1), (1, 3, 1), (2, 29, 1), (3, 29, 1)], 4, 64, [.int .i64 0, .int .i64 0, .nil, .nil], .none⟩
theorem Za0 : Zc8.ok Tryz.prog 33 := ⟨⟨_, Tryz.underlying33, rfl, fun w => by simp [Tryz.sizeOf29, Tryz.sizeOf3]⟩, ⟨Tryz.t33, _, Xci Tryz.type33, rfl, rfl, rfl, rfl⟩, rfl, rfl, by decide, trivial⟩
def Zc9 : TI := ⟨.struct [(0, 3, 1), (1, 4, 1), (2, 4, 1), (3, 4, 1)], 4, 16, [.int .i64 0, .bool false, .bool false, .bool false], .none⟩
theorem Za1 : Zc9.ok Tryz.prog 35 := ⟨⟨_, Tryz.underlying35, rfl, fun w => by simp [Tryz.sizeOf3, Tryz.sizeOf4]⟩, ⟨Tryz.t35, _, Xci Tryz.type35, rfl, rfl, rfl, rfl⟩, rfl, rfl, by decide, trivial⟩
def Zda : TI := ⟨.struct [(0, 3, 1), (1, 3, 1), (2, 9, 1)], 3, 32, [.int .i64 0, .int .i64 0, .str ⟨#[]⟩], .row Yt1⟩
theorem Za2 : Zda.ok Tryz.prog 37 := ⟨⟨_, Tryz.underlying37, rfl, fun w => by simp [Tryz.sizeOf3, Tryz.sizeOf9]⟩, ⟨Tryz.t37, _, Xci Tryz.type37, rfl, rfl, rfl, rfl⟩, rfl, rfl, by decide, ⟨Yz5, rfl, Yxw⟩⟩
def Zdb : TI := ⟨.struct [(0, 3, 1), (1, 3, 1), (2, 3, 1)], 3, 24, [.int .i64 0, .int .i64 0, .int .i64 0], .none⟩
theorem Za3 : Zdb.ok Tryz.prog 46 := ⟨⟨_, Tryz.underlying46, rfl, fun w => by simp [Tryz.sizeOf3]⟩, ⟨Tryz.t46, _, Xci Tryz.type46, rfl, rfl, rfl, rfl⟩, rfl, rfl, by decide, trivial⟩
def Zdc : TI := ⟨.struct [(0, 33, 4), (4, 35, 4), (8, 46, 3), (11, 3, 1), (12, 3, 1), (13, 3, 1), (14, 3, 1), (15, 4, 1), (16, 37, 3)], 19, 176, [.int .i64 0, .int .i64 0, .nil, .nil, .int .i64 0, .bool false, .bool false, .bool false, .int .i64 0, .int .i64 0, .int .i64 0, .int .i64 0, .int .i64 0, .int .i64 0, .int .i64 0, .bool false, .int .i64 0, .int .i64 0, .str ⟨#[]⟩], .none⟩
theorem Za4 : Zdc.ok Tryz.prog 48 := ⟨⟨_, Tryz.underlying48, rfl, fun w => by simp [Tryz.sizeOf3, Tryz.sizeOf33, Tryz.sizeOf35, Tryz.sizeOf37, Tryz.sizeOf4, Tryz.sizeOf46]⟩, ⟨Tryz.t48, _, Xci Tryz.type48, rfl, rfl, rfl, rfl⟩, rfl, rfl, by decide, trivial⟩
def Zdd : TI := ⟨.slice 4, 1, 24, [.nil], .none⟩
theorem Za5 : Zdd.ok Tryz.prog 49 := ⟨Tryz.underlying49, ⟨Tryz.t49, _, Xci Tryz.type49, rfl, rfl, rfl, rfl⟩, rfl, rfl, by decide, trivial⟩
def Zde : TI := ⟨.struct [(0, 4, 1), (1, 4, 1), (2, 33, 4), (6, 35, 4), (10, 3, 1), (11, 3, 1), (12, 3, 1)], 13, 112, [.bool false, .bool false, .int .i64 0, .int .i64 0, .nil, .nil, .int .i64 0, .bool false, .bool false, .bool false, .int .i64 0, .int .i64 0, .int .i64 0], .none⟩
theorem Za6 : Zde.ok Tryz.prog 55 := ⟨⟨_, Tryz.underlying55, rfl, fun w => by simp [Tryz.sizeOf3, Tryz.sizeOf33, Tryz.sizeOf35, Tryz.sizeOf4]⟩, ⟨Tryz.t55, _, Xci Tryz.type55, rfl, rfl, rfl, rfl⟩, rfl, rfl, by decide, trivial⟩
def Zdf : TI := ⟨.struct [(0, 4, 1), (1, 3, 1), (2, 9, 1)], 3, 32, [.bool false, .int .i64 0, .str ⟨#[]⟩], .none⟩
theorem Za7 : Zdf.ok Tryz.prog 57 := ⟨⟨_, Tryz.underlying57, rfl, fun w => by simp [Tryz.sizeOf3, Tryz.sizeOf4, Tryz.sizeOf9]⟩, ⟨Tryz.t57, _, Xci Tryz.type57, rfl, rfl, rfl, rfl⟩, rfl, rfl, by decide, trivial⟩
def Zby : TI := ⟨.struct [(0, 4, 1), (1, 3, 1), (2, 4, 1), (3, 4, 1)], 4, 24, [.bool false, .int .i64 0, .bool false, .bool false], .none⟩
theorem Yyv : Zby.ok Tryz.prog 112 := ⟨⟨_, Tryz.underlying112, rfl, fun w => by simp [Tryz.sizeOf3, Tryz.sizeOf4]⟩, ⟨Tryz.t112, _, Xci Tryz.type112, rfl, rfl, rfl, rfl⟩, rfl, rfl, by decide, trivial⟩
def Zbz : TI := ⟨.slice 172, 1, 24, [.nil], .none⟩
theorem Yyw : Zbz.ok Tryz.prog 113 := ⟨Tryz.underlying113, ⟨Tryz.t113, _, Xci Tryz.type113, rfl, rfl, rfl, rfl⟩, rfl, rfl, by decide, trivial⟩
def Zb0 : TI := ⟨.struct [(0, 3, 1), (1, 3, 1), (2, 3, 1)], 3, 24, [.int .i64 0, .int .i64 0, .int .i64 0], .none⟩
theorem Yyx : Zb0.ok Tryz.prog 118 := ⟨⟨_, Tryz.underlying118, rfl, fun w => by simp [Tryz.sizeOf3]⟩, ⟨Tryz.t118, _, Xci Tryz.type118, rfl, rfl, rfl, rfl⟩, rfl, rfl, by decide, trivial⟩
def Zb1 : TI := ⟨.int .u64, 1, 8, [.int .u64 0], .ints .u64⟩
theorem Yyy : Zb1.ok Tryz.prog 132 := ⟨Tryz.underlying132, ⟨Tryz.t132, _, Xci Tryz.type132, rfl, rfl, rfl, rfl⟩, rfl, rfl, by decide, ⟨rfl, rfl⟩⟩
def Zb2 : TI := ⟨.struct [(0, 22, 1), (1, 3, 1), (2, 3, 1)], 3, 40, [.nil, .int .i64 0, .int .i64 0], .none⟩
theorem Yyz : Zb2.ok Tryz.prog 154 := ⟨⟨_, Tryz.underlying154, rfl, fun w => by simp [Tryz.sizeOf22, Tryz.sizeOf3]⟩, ⟨Tryz.t154, _, Xci Tryz.type154, rfl, rfl, rfl, rfl⟩, rfl, rfl, by decide, trivial⟩
def Zb3 : TI := ⟨.struct [(0, 3, 1), (1, 3, 1), (2, 3, 1), (3, 3, 1), (4, 29, 1)], 5, 56, [.int .i64 0, .int .i64 0, .int .i64 0, .int .i64 0, .nil], .row Xdf⟩
theorem Yy0 : Zb3.ok Tryz.prog 172 := ⟨⟨_, Tryz.underlying172, rfl, fun w => by simp [Tryz.sizeOf29, Tryz.sizeOf3]⟩, ⟨Tryz.t172, _, Xci Tryz.type172, rfl, rfl, rfl, rfl⟩, rfl, rfl, by decide, ⟨Yt2, rfl, Yq9⟩⟩
def Zb4 : TI := ⟨.struct [(0, 3, 1), (1, 3, 1), (2, 3, 1), (3, 3, 1)], 4, 32, [.int .i64 0, .int .i64 0, .int .i64 0, .int .i64 0], .none⟩
theorem Yy1 : Zb4.ok Tryz.prog 199 := ⟨⟨_, Tryz.underlying199, rfl, fun w => by simp [Tryz.sizeOf3]⟩, ⟨Tryz.t199, _, Xci Tryz.type199, rfl, rfl, rfl, rfl⟩, rfl, rfl, by decide, trivial⟩
def Zb5 : TI := ⟨.struct [(0, 9, 1), (1, 3, 1), (2, 4, 1)], 3, 32, [.str ⟨#[]⟩, .int .i64 0, .bool false], .none⟩
theorem Yy2 : Zb5.ok Tryz.prog 210 := ⟨⟨_, Tryz.underlying210, rfl, fun w => by simp [Tryz.sizeOf3, Tryz.sizeOf4, Tryz.sizeOf9]⟩, ⟨Tryz.t210, _, Xci Tryz.type210, rfl, rfl, rfl, rfl⟩, rfl, rfl, by decide, trivial⟩
def Zb6 : TI := ⟨.struct [(0, 29, 1), (1, 29, 1), (2, 3, 1)], 3, 56, [.nil, .nil, .int .i64 0], .none⟩
theorem Yy3 : Zb6.ok Tryz.prog 217 := ⟨⟨_, Tryz.underlying217, rfl, fun w => by simp [Tryz.sizeOf29, Tryz.sizeOf3]⟩, ⟨Tryz.t217, _, Xci Tryz.type217, rfl, rfl, rfl, rfl⟩, rfl, rfl, by decide, trivial⟩
def Zb7 : TI := ⟨.slice 29, 1, 24, [.nil], .none⟩
theorem Yy4 : Zb7.ok Tryz.prog 233 := ⟨Tryz.underlying233, ⟨Tryz.t233, _, Xci Tryz.type233, rfl, rfl, rfl, rfl⟩, rfl, rfl, by decide, trivial⟩
def Zb8 : TI := ⟨.arr 4 3, 4, 32, [.int .i64 0, .int .i64 0, .int .i64 0, .int .i64 0], .none⟩
theorem Yy5 : Zb8.ok Tryz.prog 254 := ⟨Tryz.underlying254, ⟨Tryz.t254, _, Xci Tryz.type254, rfl, rfl, rfl, rfl⟩, rfl, rfl, by decide, trivial⟩
def Zb9 : TI := ⟨.arr 3 3, 3, 24, [.int .i64 0, .int .i64 0, .int .i64 0], .none⟩
theorem Yy6 : Zb9.ok Tryz.prog 260 := ⟨Tryz.underlying260, ⟨Tryz.t260, _, Xci Tryz.type260, rfl, rfl, rfl, rfl⟩, rfl, rfl, by decide, trivial⟩
def Zca : TI := ⟨.arr 6 260, 18, 144, [.int .i64 0, .int .i64 0, .int .i64 0, .int .i64 0, .int .i64 0, .int .i64 0, .int .i64 0, .int .i64 0, .int .i64 0, .int .i64 0, .int .i64 0, .int .i64 0, .int .i64 0, .int .i64 0, .int .i64 0, .int .i64 0, .int .i64 0, .int .i64 0], .none⟩
theorem Yy7 : Zca.ok Tryz.prog 261 := ⟨Tryz.underlying261, ⟨Tryz.t261, _, Xci Tryz.type261, rfl, rfl, rfl, rfl⟩, rfl, rfl, by decide, trivial⟩
def T : Nat → Option TI := lkT [(3, ti3), (4, ti4), (9, ti9), (5, ti5), (22, Zc4), (24, Zc5), (28, Zc6), (29, Zc7), (33, Zc8), (35, Zc9), (37, Zda), (46, Zdb), (48, Zdc), (49, Zdd), (55, Zde), (57, Zdf), (112, Zby), (113, Zbz), (118, Zb0), (132, Zb1), (154, Zb2), (172, Zb3), (199, Zb4), (210, Zb5), (217, Zb6), (233, Zb7), (254, Zb8), (260, Zb9), (261, Zca)]
theorem hT : TOk Tryz.prog T := Zad (by
 intro p hp
 simp only [List.mem_cons, List.not_mem_nil, or_false] at hp
 rcases hp with rfl | rfl | rfl | rfl | rfl | rfl | rfl | rfl | rfl | rfl | rfl | rfl | rfl | rfl | rfl | rfl | rfl | rfl | rfl | rfl | rfl | rfl | rfl | rfl | rfl | rfl | rfl | rfl | rfl
 ·
  exact Zcb
 ·
  exact Zcc
 ·
  exact Zce
 ·
  exact Zcd
 ·
  exact Zaw
 ·
  exact Zax
 ·
  exact Zay
 ·
  exact Zaz
 ·
  exact Za0
 ·
  exact Za1
 ·
  exact Za2
 ·
  exact Za3
 ·
  exact Za4
 ·
  exact Za5
 ·
  exact Za6
 ·
  exact Za7
 ·
  exact Yyv
 ·
  exact Yyw
 ·
  exact Yyx
 ·
  exact Yyy
 ·
  exact Yyz
 ·
  exact Yy0
 ·
  exact Yy1
 ·
  exact Yy2
 ·
  exact Yy3
 ·
  exact Yy4
 ·
  exact Yy5
 ·
  exact Yy6
 ·
  exact Yy7)
theorem hm : Tryz.prog.follows .mixedOrders = true := by kernel_rfl
theorem Zcu (d : Nat) (w : World) (x0 y0 : Int) (x1 y1 : Bool) (x2 y2 : Bool) (x3 y3 : Bool) : (Op.equalIn (d + 2) 35 (.agg #[.int .i64 x0, .bool x1, .bool x2, .bool x3]) (.agg #[.int .i64 y0, .bool y1, .bool y2, .bool y3])).run Tryz.prog w = .ok ((x0 == y0) && ((x1 == y1) && ((x2 == y2) && (x3 == y3)))) w := by
 refine Yzh Tryz.underlying35 (by kernel_rfl) ?_
 refine Xyg (by rfl) (by go_simp; rfl) (by go_simp; rfl) (by go_simp) ?_
 refine Xyg (by rfl) (by go_simp; rfl) (by go_simp; rfl) (by go_simp) ?_
 refine Xyg (by rfl) (by go_simp; rfl) (by go_simp; rfl) (by go_simp) ?_
 exact Ysk (by rfl) (by go_simp; rfl) (by go_simp; rfl) (by go_simp)
theorem Yzi {x0 y0 : Int} {x1 y1 : Bool} {x2 y2 : Bool} {x3 y3 : Bool} : EqT Tryz.prog 35 [.int .i64 x0, .bool x1, .bool x2, .bool x3] [.int .i64 y0, .bool y1, .bool y2, .bool y3] ((x0 == y0) && ((x1 == y1) && ((x2 == y2) && (x3 == y3)))) := ⟨by kernel_rfl, rfl, rfl, fun w => Zcu 9998 w _ _ _ _ _ _ _ _⟩
theorem Zcv (d : Nat) (w : World) (x0 y0 : Int) (x1 y1 : Int) (x2 y2 : ByteArray) : (Op.equalIn (d + 2) 37 (.agg #[.int .i64 x0, .int .i64 x1, .string x2]) (.agg #[.int .i64 y0, .int .i64 y1, .string y2])).run Tryz.prog w = .ok ((x0 == y0) && ((x1 == y1) && (x2.toList == y2.toList))) w := by
 refine Yzh Tryz.underlying37 (by kernel_rfl) ?_
 refine Xyg (by rfl) (by go_simp; rfl) (by go_simp; rfl) (by go_simp) ?_
 refine Xyg (by rfl) (by go_simp; rfl) (by go_simp; rfl) (by go_simp) ?_
 exact Ysk (by rfl) (by go_simp; rfl) (by go_simp; rfl) (by go_simp)
theorem Zbk {x0 y0 : Int} {x1 y1 : Int} {x2 y2 : ByteArray} : EqT Tryz.prog 37 [.int .i64 x0, .int .i64 x1, .str x2] [.int .i64 y0, .int .i64 y1, .str y2] ((x0 == y0) && ((x1 == y1) && (x2.toList == y2.toList))) := ⟨by kernel_rfl, rfl, rfl, fun w => Zcv 9998 w _ _ _ _ _ _⟩
end Go.Proofs.YtnhflbeahbcklabGreat.A
