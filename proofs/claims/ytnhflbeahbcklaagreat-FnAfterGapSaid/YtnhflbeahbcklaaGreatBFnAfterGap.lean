/- The types of the program, as the abstract logic reads them. Written by a program of this session. Conditions: none. -/
import Derived.Test.YtnhflbeahbcklaaGreatDFnAfterGap
import Derived.Test.YtnhflbeahbcklaaGreatRows
import Derived.KernelRfl
namespace Go.Proofs.YtnhflbeahbcklaaGreat.A
open Go Go.Proofs Go.Proofs.YtnhflbeahbcklaaGreatAL Go.RowKit
set_option linter.unusedVariables false
set_option linter.unusedSimpArgs false
def Yvm (x : Bool) : List SV := [.bool x]
def Zag : List SV → Option Bool
 | [x0] => (match gB x0 with | some a0 => some a0 | _ => none)
 | _ => none
abbrev Yat : Xtf := ⟨Bool, Yz3, 1, Yvm, Zag⟩
theorem Yxt : Yat.ok := by
 refine ⟨fun _ => rfl, by decide, fun cs x h => ?_⟩
 change Zag cs = some x at h
 unfold Zag at h
 split at h
 ·
  split at h
  ·
   cases h
   refine ⟨rfl, fun j y hy => ?_⟩
   change (Yvm _)[j]? = some y at hy
   rcases j with _ | _
   ·
    cases hy; exact ⟨_, rfl, Zbo (by assumption)⟩
   ·
    simp [Yvm] at hy
  ·
   cases h
 ·
  cases h
theorem Yvh : Xvp [.bool false] (Yat.enc Yat.d) := by
 intro j y hy
 change (Yvm _)[j]? = some y at hy
 rcases j with _ | _
 ·
  cases hy; exact ⟨_, rfl, fun _ _ _ h => h⟩
 ·
  simp [Yvm] at hy
theorem Ysb (l : List Bool) : (l.filterMap fun y => Yat.dec (Yat.enc y)) = l := by
 rw [show (fun y => Yat.dec (Yat.enc y)) = some from funext fun y => rfl]; exact List.filterMap_some
def Xq0 (x : ByteArray) : List SV := [.str x]
def Yb1 : List SV → Option ByteArray
 | [x0] => (match gS x0 with | some a0 => some a0 | _ => none)
 | _ => none
abbrev Xbr : Xtf := ⟨ByteArray, Xb0, 1, Xq0, Yb1⟩
theorem Ymh : Xbr.ok := by
 refine ⟨fun _ => rfl, by decide, fun cs x h => ?_⟩
 change Yb1 cs = some x at h
 unfold Yb1 at h
 split at h
 ·
  split at h
  ·
   cases h
   refine ⟨rfl, fun j y hy => ?_⟩
   change (Xq0 _)[j]? = some y at hy
   rcases j with _ | _
   ·
    cases hy; exact ⟨_, rfl, Yzf (by assumption)⟩
   ·
    simp [Xq0] at hy
  ·
   cases h
 ·
  cases h
theorem Yjo : Xvp [.str ⟨#[]⟩] (Xbr.enc Xbr.d) := by
 intro j y hy
 change (Xq0 _)[j]? = some y at hy
 rcases j with _ | _
 ·
  cases hy; exact ⟨_, rfl, fun _ _ _ h => h⟩
 ·
  simp [Xq0] at hy
theorem Xh7 (l : List ByteArray) : (l.filterMap fun y => Xbr.dec (Xbr.enc y)) = l := by
 rw [show (fun y => Xbr.dec (Xbr.enc y)) = some from funext fun y => rfl]; exact List.filterMap_some
def Xya (x : (List Int)) : List SV := [.ints .i64 x]
def Ynp : List SV → Option (List Int)
 | [x0] => (match gL .i64 x0 with | some a0 => some a0 | _ => none)
 | _ => none
abbrev Xp1 : Xtf := ⟨(List Int), Xf3, 1, Xya, Ynp⟩
theorem Yq3 : Xp1.ok := by
 refine ⟨fun _ => rfl, by decide, fun cs x h => ?_⟩
 change Ynp cs = some x at h
 unfold Ynp at h
 split at h
 ·
  split at h
  ·
   cases h
   refine ⟨rfl, fun j y hy => ?_⟩
   change (Xya _)[j]? = some y at hy
   rcases j with _ | _
   ·
    cases hy; exact ⟨_, rfl, Ysi (by assumption)⟩
   ·
    simp [Xya] at hy
  ·
   cases h
 ·
  cases h
theorem Yoz : Xvp [.nil] (Xp1.enc Xp1.d) := by
 intro j y hy
 change (Xya _)[j]? = some y at hy
 rcases j with _ | _
 ·
  cases hy; exact ⟨_, rfl, Ysi (k := .i64) rfl⟩
 ·
  simp [Xya] at hy
theorem Yz0 (l : List (List Int)) : (l.filterMap fun y => Xp1.dec (Xp1.enc y)) = l := by
 rw [show (fun y => Xp1.dec (Xp1.enc y)) = some from funext fun y => rfl]; exact List.filterMap_some
def Zbk (x : Pic) : List SV := [.int .i64 x.Wide, .int .i64 x.High, .str x.Dots]
def Zcy : List SV → Option Pic
 | [x0, x1, x2] => (match gI .i64 x0, gI .i64 x1, gS x2 with | some a0, some a1, some a2 => some ⟨a0, a1, a2⟩ | _, _, _ => none)
 | _ => none
abbrev Yt1 : Xtf := ⟨Pic, Zbb, 3, Zbk, Zcy⟩
theorem Yz1 : Yt1.ok := by
 refine ⟨fun _ => rfl, by decide, fun cs x h => ?_⟩
 change Zcy cs = some x at h
 unfold Zcy at h
 split at h
 ·
  split at h
  ·
   cases h
   refine ⟨rfl, fun j y hy => ?_⟩
   change (Zbk _)[j]? = some y at hy
   rcases j with _ | _ | _ | _
   ·
    cases hy; exact ⟨_, rfl, Yln (by assumption)⟩
   ·
    cases hy; exact ⟨_, rfl, Yln (by assumption)⟩
   ·
    cases hy; exact ⟨_, rfl, Yzf (by assumption)⟩
   ·
    simp [Zbk] at hy
  ·
   cases h
 ·
  cases h
theorem Yxu : Xvp [.int .i64 0, .int .i64 0, .str ⟨#[]⟩] (Yt1.enc Yt1.d) := by
 intro j y hy
 change (Zbk _)[j]? = some y at hy
 rcases j with _ | _ | _ | _
 ·
  cases hy; exact ⟨_, rfl, fun _ _ _ h => h⟩
 ·
  cases hy; exact ⟨_, rfl, fun _ _ _ h => h⟩
 ·
  cases hy; exact ⟨_, rfl, fun _ _ _ h => h⟩
 ·
  simp [Zbk] at hy
theorem Yvi (l : List Pic) : (l.filterMap fun y => Yt1.dec (Yt1.enc y)) = l := by
 rw [show (fun y => Yt1.dec (Yt1.enc y)) = some from funext fun y => rfl]; exact List.filterMap_some
def Yga (x : Xam) : List SV := [.int .i64 x.Kind, .int .i64 x.Mode, .int .i64 x.Dx, .int .i64 x.Dy, .ints .i64 x.Levels]
def Yrq : List SV → Option Xam
 | [x0, x1, x2, x3, x4] => (match gI .i64 x0, gI .i64 x1, gI .i64 x2, gI .i64 x3, gL .i64 x4 with | some a0, some a1, some a2, some a3, some a4 => some ⟨a0, a1, a2, a3, a4⟩ | _, _, _, _, _ => none)
 | _ => none
abbrev Xde : Xtf := ⟨Xam, Xwv, 5, Yga, Yrq⟩
theorem Yt2 : Xde.ok := by
 refine ⟨fun _ => rfl, by decide, fun cs x h => ?_⟩
 change Yrq cs = some x at h
 unfold Yrq at h
 split at h
 ·
  split at h
  ·
   cases h
   refine ⟨rfl, fun j y hy => ?_⟩
   change (Yga _)[j]? = some y at hy
   rcases j with _ | _ | _ | _ | _ | _
   ·
    cases hy; exact ⟨_, rfl, Yln (by assumption)⟩
   ·
    cases hy; exact ⟨_, rfl, Yln (by assumption)⟩
   ·
    cases hy; exact ⟨_, rfl, Yln (by assumption)⟩
   ·
    cases hy; exact ⟨_, rfl, Yln (by assumption)⟩
   ·
    cases hy; exact ⟨_, rfl, Ysi (by assumption)⟩
   ·
    simp [Yga] at hy
  ·
   cases h
 ·
  cases h
theorem Yq4 : Xvp [.int .i64 0, .int .i64 0, .int .i64 0, .int .i64 0, .nil] (Xde.enc Xde.d) := by
 intro j y hy
 change (Yga _)[j]? = some y at hy
 rcases j with _ | _ | _ | _ | _ | _
 ·
  cases hy; exact ⟨_, rfl, fun _ _ _ h => h⟩
 ·
  cases hy; exact ⟨_, rfl, fun _ _ _ h => h⟩
 ·
  cases hy; exact ⟨_, rfl, fun _ _ _ h => h⟩
 ·
  cases hy; exact ⟨_, rfl, fun _ _ _ h => h⟩
 ·
  cases hy; exact ⟨_, rfl, Ysi (k := .i64) rfl⟩
 ·
  simp [Yga] at hy
theorem Xuu (l : List Xam) : (l.filterMap fun y => Xde.dec (Xde.enc y)) = l := by
 rw [show (fun y => Xde.dec (Xde.enc y)) = some from funext fun y => rfl]; exact List.filterMap_some
def ti3 : TI := ⟨.int .i64, 1, 8, [.int .i64 0], .ints .i64⟩
theorem Zca : ti3.ok Tryz.prog 3 := ⟨Tryz.underlying3, ⟨Tryz.t3, _, Xck Tryz.type3, rfl, rfl, rfl, rfl⟩, rfl, rfl, by decide, ⟨rfl, rfl⟩⟩
def ti4 : TI := ⟨.bool, 1, 1, [.bool false], .row Yat⟩
theorem Zcb : ti4.ok Tryz.prog 4 := ⟨Tryz.underlying4, ⟨Tryz.t4, _, Xck Tryz.type4, rfl, rfl, rfl, rfl⟩, rfl, rfl, by decide, ⟨Yxt, rfl, Yvh⟩⟩
def ti5 : TI := ⟨.int .u8, 1, 1, [.int .u8 0], .ints .u8⟩
theorem Zcc : ti5.ok Tryz.prog 5 := ⟨Tryz.underlying5, ⟨Tryz.t5, _, Xck Tryz.type5, rfl, rfl, rfl, rfl⟩, rfl, rfl, by decide, ⟨rfl, rfl⟩⟩
def ti9 : TI := ⟨.str, 1, 16, [.str ⟨#[]⟩], .row Xbr⟩
theorem Zcd : ti9.ok Tryz.prog 9 := ⟨Tryz.underlying9, ⟨Tryz.t9, _, Xck Tryz.type9, rfl, rfl, rfl, rfl⟩, rfl, rfl, by decide, ⟨Ymh, rfl, Yjo⟩⟩
def Zc3 : TI := ⟨.slice 5, 1, 24, [.nil], .none⟩
theorem Zat : Zc3.ok Tryz.prog 22 := ⟨Tryz.underlying22, ⟨Tryz.t22, _, Xck Tryz.type22, rfl, rfl, rfl, rfl⟩, rfl, rfl, by decide, trivial⟩
def Zc4 : TI := ⟨.slice 9, 1, 24, [.nil], .none⟩
theorem Zau : Zc4.ok Tryz.prog 24 := ⟨Tryz.underlying24, ⟨Tryz.t24, _, Xck Tryz.type24, rfl, rfl, rfl, rfl⟩, rfl, rfl, by decide, trivial⟩
def Zc5 : TI := ⟨.slice 3, 1, 24, [.nil], .row Xp1⟩
theorem Zav : Zc5.ok Tryz.prog 26 := ⟨Tryz.underlying26, ⟨Tryz.t26, _, Xck Tryz.type26, rfl, rfl, rfl, rfl⟩, rfl, rfl, by decide, ⟨Yq3, rfl, Yoz⟩⟩
def Zc6 : TI := ⟨.struct [(0, 3, 1), (1, 3, 1), (2, 26, 1), (3, 26, 1)], 4, 64, [.int .i64 0, .int .i64 0, .nil, .nil], .none⟩
theorem Zaw : Zc6.ok Tryz.prog 29 := ⟨⟨_, Tryz.underlying29, rfl, fun w => by simp [Tryz.sizeOf26, Tryz.sizeOf3]⟩, ⟨Tryz.t29, _, Xck Tryz.type29, rfl, rfl, rfl, rfl⟩, rfl, rfl, by decide, trivial⟩
def Zc7 : TI := ⟨.struct [(0, 3, 1), (1, 4, 1), (2, 4, 1), (3, 4, 1)], 4, 16, [.int .i64 0, .bool false, .bool false, .bool false], .none⟩
theorem Zax : Zc7.ok Tryz.prog 31 := ⟨⟨_, Tryz.underlying31, rfl, fun w => by simp [Tryz.sizeOf3, Tryz.sizeOf4]⟩, ⟨Tryz.t31, _, Xck Tryz.type31, rfl, rfl, rfl, rfl⟩, rfl, rfl, by decide, trivial⟩
def Zc8 : TI := ⟨.struct [(0, 3, 1), (1, 3, 1), (2, 9, 1)], 3, 32, [.int .i64 0, .int .i64 0, .str ⟨#[]⟩], .row Yt1⟩
theorem Zay : Zc8.ok Tryz.prog 33 := ⟨⟨_, Tryz.underlying33, rfl, fun w => by simp [Tryz.sizeOf3, Tryz.sizeOf9]⟩, ⟨Tryz.t33, _, Xck Tryz.type33, rfl, rfl, rfl, rfl⟩, rfl, rfl, by decide, ⟨Yz1, rfl, Yxu⟩⟩
def Zc9 : TI := ⟨.slice 33, 1, 24, [.nil], .none⟩
theorem Zaz : Zc9.ok Tryz.prog 36 := ⟨Tryz.underlying36, ⟨Tryz.t36, _, Xck Tryz.type36, rfl, rfl, rfl, rfl⟩, rfl, rfl, by decide, trivial⟩
def Zda : TI := ⟨.struct [(0, 3, 1), (1, 3, 1), (2, 3, 1)], 3, 24, [.int .i64 0, .int .i64 0, .int .i64 0], .none⟩
theorem Za0 : Zda.ok Tryz.prog 41 := ⟨⟨_, Tryz.underlying41, rfl, fun w => by simp [Tryz.sizeOf3]⟩, ⟨Tryz.t41, _, Xck Tryz.type41, rfl, rfl, rfl, rfl⟩, rfl, rfl, by decide, trivial⟩
def Zdb : TI := ⟨.struct [(0, 3, 1), (1, 3, 1), (2, 3, 1)], 3, 24, [.int .i64 0, .int .i64 0, .int .i64 0], .none⟩
theorem Za1 : Zdb.ok Tryz.prog 53 := ⟨⟨_, Tryz.underlying53, rfl, fun w => by simp [Tryz.sizeOf3]⟩, ⟨Tryz.t53, _, Xck Tryz.type53, rfl, rfl, rfl, rfl⟩, rfl, rfl, by decide, trivial⟩
def Zdc : TI := ⟨.struct [(0, 29, 4), (4, 31, 4), (8, 53, 3), (11, 3, 1), (12, 3, 1), (13, 3, 1), (14, 3, 1), (15, 4, 1), (16, 33, 3)], 19, 176, [.int .i64 0, .int .i64 0, .nil, .nil, .int .i64 0, .bool false, .bool false, .bool false, .int .i64 0, .int .i64 0, .int .i64 0, .int .i64 0, .int .i64 0, .int .i64 0, .int .i64 0, .bool false, .int .i64 0, .int .i64 0, .str ⟨#[]⟩], .none⟩
theorem Za2 : Zdc.ok Tryz.prog 55 := ⟨⟨_, Tryz.underlying55, rfl, fun w => by simp [Tryz.sizeOf29, Tryz.sizeOf3, Tryz.sizeOf31, Tryz.sizeOf33, Tryz.sizeOf4, Tryz.sizeOf53]⟩, ⟨Tryz.t55, _, Xck Tryz.type55, rfl, rfl, rfl, rfl⟩, rfl, rfl, by decide, trivial⟩
def Zdd : TI := ⟨.slice 4, 1, 24, [.nil], .none⟩
theorem Za3 : Zdd.ok Tryz.prog 56 := ⟨Tryz.underlying56, ⟨Tryz.t56, _, Xck Tryz.type56, rfl, rfl, rfl, rfl⟩, rfl, rfl, by decide, trivial⟩
def Zde : TI := ⟨.struct [(0, 4, 1), (1, 4, 1), (2, 29, 4), (6, 31, 4), (10, 3, 1), (11, 3, 1), (12, 3, 1)], 13, 112, [.bool false, .bool false, .int .i64 0, .int .i64 0, .nil, .nil, .int .i64 0, .bool false, .bool false, .bool false, .int .i64 0, .int .i64 0, .int .i64 0], .none⟩
theorem Za4 : Zde.ok Tryz.prog 65 := ⟨⟨_, Tryz.underlying65, rfl, fun w => by simp [Tryz.sizeOf29, Tryz.sizeOf3, Tryz.sizeOf31, Tryz.sizeOf4]⟩, ⟨Tryz.t65, _, Xck Tryz.type65, rfl, rfl, rfl, rfl⟩, rfl, rfl, by decide, trivial⟩
def Zdf : TI := ⟨.struct [(0, 4, 1), (1, 3, 1), (2, 9, 1)], 3, 32, [.bool false, .int .i64 0, .str ⟨#[]⟩], .none⟩
theorem Za5 : Zdf.ok Tryz.prog 67 := ⟨⟨_, Tryz.underlying67, rfl, fun w => by simp [Tryz.sizeOf3, Tryz.sizeOf4, Tryz.sizeOf9]⟩, ⟨Tryz.t67, _, Xck Tryz.type67, rfl, rfl, rfl, rfl⟩, rfl, rfl, by decide, trivial⟩
def Zdg : TI := ⟨.struct [(0, 3, 1), (1, 3, 1), (2, 3, 1), (3, 3, 1)], 4, 32, [.int .i64 0, .int .i64 0, .int .i64 0, .int .i64 0], .none⟩
theorem Za6 : Zdg.ok Tryz.prog 73 := ⟨⟨_, Tryz.underlying73, rfl, fun w => by simp [Tryz.sizeOf3]⟩, ⟨Tryz.t73, _, Xck Tryz.type73, rfl, rfl, rfl, rfl⟩, rfl, rfl, by decide, trivial⟩
def Zbz : TI := ⟨.struct [(0, 4, 1), (1, 3, 1), (2, 4, 1), (3, 4, 1)], 4, 24, [.bool false, .int .i64 0, .bool false, .bool false], .none⟩
theorem Yyu : Zbz.ok Tryz.prog 114 := ⟨⟨_, Tryz.underlying114, rfl, fun w => by simp [Tryz.sizeOf3, Tryz.sizeOf4]⟩, ⟨Tryz.t114, _, Xck Tryz.type114, rfl, rfl, rfl, rfl⟩, rfl, rfl, by decide, trivial⟩
def Zb0 : TI := ⟨.slice 166, 1, 24, [.nil], .none⟩
theorem Yyv : Zb0.ok Tryz.prog 115 := ⟨Tryz.underlying115, ⟨Tryz.t115, _, Xck Tryz.type115, rfl, rfl, rfl, rfl⟩, rfl, rfl, by decide, trivial⟩
def Zb1 : TI := ⟨.int .u64, 1, 8, [.int .u64 0], .ints .u64⟩
theorem Yyw : Zb1.ok Tryz.prog 138 := ⟨Tryz.underlying138, ⟨Tryz.t138, _, Xck Tryz.type138, rfl, rfl, rfl, rfl⟩, rfl, rfl, by decide, ⟨rfl, rfl⟩⟩
def Zb2 : TI := ⟨.struct [(0, 9, 1), (1, 3, 1), (2, 4, 1)], 3, 32, [.str ⟨#[]⟩, .int .i64 0, .bool false], .none⟩
theorem Yyx : Zb2.ok Tryz.prog 146 := ⟨⟨_, Tryz.underlying146, rfl, fun w => by simp [Tryz.sizeOf3, Tryz.sizeOf4, Tryz.sizeOf9]⟩, ⟨Tryz.t146, _, Xck Tryz.type146, rfl, rfl, rfl, rfl⟩, rfl, rfl, by decide, trivial⟩
def Zb3 : TI := ⟨.struct [(0, 22, 1), (1, 3, 1), (2, 3, 1)], 3, 40, [.nil, .int .i64 0, .int .i64 0], .none⟩
theorem Yyy : Zb3.ok Tryz.prog 150 := ⟨⟨_, Tryz.underlying150, rfl, fun w => by simp [Tryz.sizeOf22, Tryz.sizeOf3]⟩, ⟨Tryz.t150, _, Xck Tryz.type150, rfl, rfl, rfl, rfl⟩, rfl, rfl, by decide, trivial⟩
def Zb4 : TI := ⟨.struct [(0, 3, 1), (1, 3, 1), (2, 3, 1), (3, 3, 1), (4, 26, 1)], 5, 56, [.int .i64 0, .int .i64 0, .int .i64 0, .int .i64 0, .nil], .row Xde⟩
theorem Yyz : Zb4.ok Tryz.prog 166 := ⟨⟨_, Tryz.underlying166, rfl, fun w => by simp [Tryz.sizeOf26, Tryz.sizeOf3]⟩, ⟨Tryz.t166, _, Xck Tryz.type166, rfl, rfl, rfl, rfl⟩, rfl, rfl, by decide, ⟨Yt2, rfl, Yq4⟩⟩
def Zb5 : TI := ⟨.slice 26, 1, 24, [.nil], .none⟩
theorem Yy0 : Zb5.ok Tryz.prog 185 := ⟨Tryz.underlying185, ⟨Tryz.t185, _, Xck Tryz.type185, rfl, rfl, rfl, rfl⟩, rfl, rfl, by decide, trivial⟩
def Zb6 : TI := ⟨.struct [(0, 26, 1), (1, 26, 1), (2, 3, 1)], 3, 56, [.nil, .nil, .int .i64 0], .none⟩
theorem Yy1 : Zb6.ok Tryz.prog 193 := ⟨⟨_, Tryz.underlying193, rfl, fun w => by simp [Tryz.sizeOf26, Tryz.sizeOf3]⟩, ⟨Tryz.t193, _, Xck Tryz.type193, rfl, rfl, rfl, rfl⟩, rfl, rfl, by decide, trivial⟩
def Zb7 : TI := ⟨.arr 4 3, 4, 32, [.int .i64 0, .int .i64 0, .int .i64 0, .int .i64 0], .none⟩
theorem Yy2 : Zb7.ok Tryz.prog 220 := ⟨Tryz.underlying220, ⟨Tryz.t220, _, Xck Tryz.type220, rfl, rfl, rfl, rfl⟩, rfl, rfl, by decide, trivial⟩
def Zb8 : TI := ⟨.arr 3 3, 3, 24, [.int .i64 0, .int .i64 0, .int .i64 0], .none⟩
theorem Yy3 : Zb8.ok Tryz.prog 225 := ⟨Tryz.underlying225, ⟨Tryz.t225, _, Xck Tryz.type225, rfl, rfl, rfl, rfl⟩, rfl, rfl, by decide, trivial⟩
def Zb9 : TI := ⟨.arr 6 225, 18, 144, [.int .i64 0, .int .i64 0, .int .i64 0, .int .i64 0, .int .i64 0, .int .i64 0, .int .i64 0, .int .i64 0, .int .i64 0, .int .i64 0, .int .i64 0, .int .i64 0, .int .i64 0, .int .i64 0, .int .i64 0, .int .i64 0, .int .i64 0, .int .i64 0], .none⟩
theorem Yy4 : Zb9.ok Tryz.prog 226 := ⟨Tryz.underlying226, ⟨Tryz.t226, _, Xck Tryz.type226, rfl, rfl, rfl, rfl⟩, rfl, rfl, by decide, trivial⟩
def T : Nat → Option TI := lkT [(3, ti3), (4, ti4), (9, ti9), (5, ti5), (22, Zc3), (24, Zc4), (26, Zc5), (29, Zc6), (31, Zc7), (33, Zc8), (36, Zc9), (41, Zda), (53, Zdb), (55, Zdc), (56, Zdd), (65, Zde), (67, Zdf), (73, Zdg), (114, Zbz), (115, Zb0), (138, Zb1), (146, Zb2), (150, Zb3), (166, Zb4), (185, Zb5), (193, Zb6), (220, Zb7), (225, Zb8), (226, Zb9)]
theorem hT : TOk Tryz.prog T := Zaa (by
 intro p hp
 simp only [List.mem_cons, List.not_mem_nil, or_false] at hp
 rcases hp with rfl | rfl | rfl | rfl | rfl | rfl | rfl | rfl | rfl | rfl | rfl | rfl | rfl | rfl | rfl | rfl | rfl | rfl | rfl | rfl | rfl | rfl | rfl | rfl | rfl | rfl | rfl | rfl | rfl
 ·
  exact Zca
 ·
  exact Zcb
 ·
  exact Zcd
 ·
  exact Zcc
 ·
  exact Zat
 ·
  exact Zau
 ·
  exact Zav
 ·
  exact Zaw
 ·
  exact Zax
 ·
  exact Zay
 ·
  exact Zaz
 ·
  exact Za0
 ·
  exact Za1
 ·
  exact Za2
 ·
  exact Za3
 ·
  exact Za4
 ·
  exact Za5
 ·
  exact Za6
 ·
  exact Yyu
 ·
  exact Yyv
 ·
  exact Yyw
 ·
  exact Yyx
 ·
  exact Yyy
 ·
  exact Yyz
 ·
  exact Yy0
 ·
  exact Yy1
 ·
  exact Yy2
 ·
  exact Yy3
 ·
  exact Yy4)
theorem hm : Tryz.prog.follows .mixedOrders = true := by kernel_rfl
theorem Zct (d : Nat) (w : World) (x0 y0 : Int) (x1 y1 : Bool) (x2 y2 : Bool) (x3 y3 : Bool) : (Op.equalIn (d + 2) 31 (.agg #[.int .i64 x0, .bool x1, .bool x2, .bool x3]) (.agg #[.int .i64 y0, .bool y1, .bool y2, .bool y3])).run Tryz.prog w = .ok ((x0 == y0) && ((x1 == y1) && ((x2 == y2) && (x3 == y3)))) w := by
 refine Yze Tryz.underlying31 (by kernel_rfl) ?_
 refine Xyb (by rfl) (by go_simp; rfl) (by go_simp; rfl) (by go_simp) ?_
 refine Xyb (by rfl) (by go_simp; rfl) (by go_simp; rfl) (by go_simp) ?_
 refine Xyb (by rfl) (by go_simp; rfl) (by go_simp; rfl) (by go_simp) ?_
 exact Ysg (by rfl) (by go_simp; rfl) (by go_simp; rfl) (by go_simp)
theorem Zbl {x0 y0 : Int} {x1 y1 : Bool} {x2 y2 : Bool} {x3 y3 : Bool} : EqT Tryz.prog 31 [.int .i64 x0, .bool x1, .bool x2, .bool x3] [.int .i64 y0, .bool y1, .bool y2, .bool y3] ((x0 == y0) && ((x1 == y1) && ((x2 == y2) && (x3 == y3)))) := ⟨by kernel_rfl, rfl, rfl, fun w => Zct 9998 w _ _ _ _ _ _ _ _⟩
theorem Zcu (d : Nat) (w : World) (x0 y0 : Int) (x1 y1 : Int) (x2 y2 : ByteArray) : (Op.equalIn (d + 2) 33 (.agg #[.int .i64 x0, .int .i64 x1, .string x2]) (.agg #[.int .i64 y0, .int .i64 y1, .string y2])).run Tryz.prog w = .ok ((x0 == y0) && ((x1 == y1) && (x2.toList == y2.toList))) w := by
 refine Yze Tryz.underlying33 (by kernel_rfl) ?_
 refine Xyb (by rfl) (by go_simp; rfl) (by go_simp; rfl) (by go_simp) ?_
 refine Xyb (by rfl) (by go_simp; rfl) (by go_simp; rfl) (by go_simp) ?_
 exact Ysg (by rfl) (by go_simp; rfl) (by go_simp; rfl) (by go_simp)
theorem Zbm {x0 y0 : Int} {x1 y1 : Int} {x2 y2 : ByteArray} : EqT Tryz.prog 33 [.int .i64 x0, .int .i64 x1, .str x2] [.int .i64 y0, .int .i64 y1, .str y2] ((x0 == y0) && ((x1 == y1) && (x2.toList == y2.toList))) := ⟨by kernel_rfl, rfl, rfl, fun w => Zcu 9998 w _ _ _ _ _ _⟩
end Go.Proofs.YtnhflbeahbcklaaGreat.A
