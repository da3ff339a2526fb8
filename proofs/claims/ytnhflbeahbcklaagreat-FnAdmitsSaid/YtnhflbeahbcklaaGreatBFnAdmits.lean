/- The types of the program, as the abstract logic reads them. Written by a program of this session. Conditions: none. -/
import Derived.Test.YtnhflbeahbcklaaGreatDFnAdmits
import Derived.Test.YtnhflbeahbcklaaGreatRows
import Derived.KernelRfl
namespace Go.Proofs.YtnhflbeahbcklaaGreat.A
open Go Go.Proofs Go.Proofs.YtnhflbeahbcklaaGreatAL Go.RowKit
set_option linter.unusedVariables false
set_option linter.unusedSimpArgs false
def Ywk (x : Bool) : List SV := [.bool x]
def Zbj : List SV → Option Bool
 | [x0] => (match gB x0 with | some a0 => some a0 | _ => none)
 | _ => none
abbrev Ybn : Xt3 := ⟨Bool, Za6, 1, Ywk, Zbj⟩
theorem Yyq : Ybn.ok := by
 refine ⟨fun _ => rfl, by decide, fun cs x h => ?_⟩
 change Zbj cs = some x at h
 unfold Zbj at h
 split at h
 ·
  split at h
  ·
   cases h
   refine ⟨rfl, fun j y hy => ?_⟩
   change (Ywk _)[j]? = some y at hy
   rcases j with _ | _
   ·
    cases hy; exact ⟨_, rfl, Zcq (by assumption)⟩
   ·
    simp [Ywk] at hy
  ·
   cases h
 ·
  cases h
theorem Ywe : Xwk [.bool false] (Ybn.enc Ybn.d) := by
 intro j y hy
 change (Ywk _)[j]? = some y at hy
 rcases j with _ | _
 ·
  cases hy; exact ⟨_, rfl, fun _ _ _ h => h⟩
 ·
  simp [Ywk] at hy
theorem Ytb (l : List Bool) : (l.filterMap fun y => Ybn.dec (Ybn.enc y)) = l := by
 rw [show (fun y => Ybn.dec (Ybn.enc y)) = some from funext fun y => rfl]; exact List.filterMap_some
def Xrf (x : ByteArray) : List SV := [.str x]
def Ycy : List SV → Option ByteArray
 | [x0] => (match gS x0 with | some a0 => some a0 | _ => none)
 | _ => none
abbrev Xbs : Xt3 := ⟨ByteArray, Xb0, 1, Xrf, Ycy⟩
theorem Ynl : Xbs.ok := by
 refine ⟨fun _ => rfl, by decide, fun cs x h => ?_⟩
 change Ycy cs = some x at h
 unfold Ycy at h
 split at h
 ·
  split at h
  ·
   cases h
   refine ⟨rfl, fun j y hy => ?_⟩
   change (Xrf _)[j]? = some y at hy
   rcases j with _ | _
   ·
    cases hy; exact ⟨_, rfl, Zag (by assumption)⟩
   ·
    simp [Xrf] at hy
  ·
   cases h
 ·
  cases h
theorem Ykq : Xwk [.str ⟨#[]⟩] (Xbs.enc Xbs.d) := by
 intro j y hy
 change (Xrf _)[j]? = some y at hy
 rcases j with _ | _
 ·
  cases hy; exact ⟨_, rfl, fun _ _ _ h => h⟩
 ·
  simp [Xrf] at hy
theorem Xim (l : List ByteArray) : (l.filterMap fun y => Xbs.dec (Xbs.enc y)) = l := by
 rw [show (fun y => Xbs.dec (Xbs.enc y)) = some from funext fun y => rfl]; exact List.filterMap_some
def Xy6 (x : (List Int)) : List SV := [.ints .i64 x]
def You : List SV → Option (List Int)
 | [x0] => (match gL .i64 x0 with | some a0 => some a0 | _ => none)
 | _ => none
abbrev Xqf : Xt3 := ⟨(List Int), Xgc, 1, Xy6, You⟩
theorem Yr5 : Xqf.ok := by
 refine ⟨fun _ => rfl, by decide, fun cs x h => ?_⟩
 change You cs = some x at h
 unfold You at h
 split at h
 ·
  split at h
  ·
   cases h
   refine ⟨rfl, fun j y hy => ?_⟩
   change (Xy6 _)[j]? = some y at hy
   rcases j with _ | _
   ·
    cases hy; exact ⟨_, rfl, Yti (by assumption)⟩
   ·
    simp [Xy6] at hy
  ·
   cases h
 ·
  cases h
theorem Yp0 : Xwk [.nil] (Xqf.enc Xqf.d) := by
 intro j y hy
 change (Xy6 _)[j]? = some y at hy
 rcases j with _ | _
 ·
  cases hy; exact ⟨_, rfl, Yti (k := .i64) rfl⟩
 ·
  simp [Xy6] at hy
theorem Za2 (l : List (List Int)) : (l.filterMap fun y => Xqf.dec (Xqf.enc y)) = l := by
 rw [show (fun y => Xqf.dec (Xqf.enc y)) = some from funext fun y => rfl]; exact List.filterMap_some
def Zcn (x : Pic) : List SV := [.int .i64 x.Wide, .int .i64 x.High, .str x.Dots]
def Zd0 : List SV → Option Pic
 | [x0, x1, x2] => (match gI .i64 x0, gI .i64 x1, gS x2 with | some a0, some a1, some a2 => some ⟨a0, a1, a2⟩ | _, _, _ => none)
 | _ => none
abbrev Yu0 : Xt3 := ⟨Pic, Zad, 3, Zcn, Zd0⟩
theorem Za3 : Yu0.ok := by
 refine ⟨fun _ => rfl, by decide, fun cs x h => ?_⟩
 change Zd0 cs = some x at h
 unfold Zd0 at h
 split at h
 ·
  split at h
  ·
   cases h
   refine ⟨rfl, fun j y hy => ?_⟩
   change (Zcn _)[j]? = some y at hy
   rcases j with _ | _ | _ | _
   ·
    cases hy; exact ⟨_, rfl, Yms (by assumption)⟩
   ·
    cases hy; exact ⟨_, rfl, Yms (by assumption)⟩
   ·
    cases hy; exact ⟨_, rfl, Zag (by assumption)⟩
   ·
    simp [Zcn] at hy
  ·
   cases h
 ·
  cases h
theorem Yyr : Xwk [.int .i64 0, .int .i64 0, .str ⟨#[]⟩] (Yu0.enc Yu0.d) := by
 intro j y hy
 change (Zcn _)[j]? = some y at hy
 rcases j with _ | _ | _ | _
 ·
  cases hy; exact ⟨_, rfl, fun _ _ _ h => h⟩
 ·
  cases hy; exact ⟨_, rfl, fun _ _ _ h => h⟩
 ·
  cases hy; exact ⟨_, rfl, fun _ _ _ h => h⟩
 ·
  simp [Zcn] at hy
theorem Ywf (l : List Pic) : (l.filterMap fun y => Yu0.dec (Yu0.enc y)) = l := by
 rw [show (fun y => Yu0.dec (Yu0.enc y)) = some from funext fun y => rfl]; exact List.filterMap_some
def Yhc (x : Xam) : List SV := [.int .i64 x.Kind, .int .i64 x.Mode, .int .i64 x.Dx, .int .i64 x.Dy, .ints .i64 x.Levels]
def Yss : List SV → Option Xam
 | [x0, x1, x2, x3, x4] => (match gI .i64 x0, gI .i64 x1, gI .i64 x2, gI .i64 x3, gL .i64 x4 with | some a0, some a1, some a2, some a3, some a4 => some ⟨a0, a1, a2, a3, a4⟩ | _, _, _, _, _ => none)
 | _ => none
abbrev Xdh : Xt3 := ⟨Xam, Xme, 5, Yhc, Yss⟩
theorem Yu1 : Xdh.ok := by
 refine ⟨fun _ => rfl, by decide, fun cs x h => ?_⟩
 change Yss cs = some x at h
 unfold Yss at h
 split at h
 ·
  split at h
  ·
   cases h
   refine ⟨rfl, fun j y hy => ?_⟩
   change (Yhc _)[j]? = some y at hy
   rcases j with _ | _ | _ | _ | _ | _
   ·
    cases hy; exact ⟨_, rfl, Yms (by assumption)⟩
   ·
    cases hy; exact ⟨_, rfl, Yms (by assumption)⟩
   ·
    cases hy; exact ⟨_, rfl, Yms (by assumption)⟩
   ·
    cases hy; exact ⟨_, rfl, Yms (by assumption)⟩
   ·
    cases hy; exact ⟨_, rfl, Yti (by assumption)⟩
   ·
    simp [Yhc] at hy
  ·
   cases h
 ·
  cases h
theorem Yr6 : Xwk [.int .i64 0, .int .i64 0, .int .i64 0, .int .i64 0, .nil] (Xdh.enc Xdh.d) := by
 intro j y hy
 change (Yhc _)[j]? = some y at hy
 rcases j with _ | _ | _ | _ | _ | _
 ·
  cases hy; exact ⟨_, rfl, fun _ _ _ h => h⟩
 ·
  cases hy; exact ⟨_, rfl, fun _ _ _ h => h⟩
 ·
  cases hy; exact ⟨_, rfl, fun _ _ _ h => h⟩
 ·
  cases hy; exact ⟨_, rfl, fun _ _ _ h => h⟩
 ·
  cases hy; exact ⟨_, rfl, Yti (k := .i64) rfl⟩
 ·
  simp [Yhc] at hy
theorem Xvi (l : List Xam) : (l.filterMap fun y => Xdh.dec (Xdh.enc y)) = l := by
 rw [show (fun y => Xdh.dec (Xdh.enc y)) = some from funext fun y => rfl]; exact List.filterMap_some
def ti3 : TI := ⟨.int .i64, 1, 8, [.int .i64 0], .ints .i64⟩
theorem Zdc : ti3.ok Tryz.prog 3 := ⟨Tryz.underlying3, ⟨Tryz.t3, _, Xct Tryz.type3, rfl, rfl, rfl, rfl⟩, rfl, rfl, by decide, ⟨rfl, rfl⟩⟩
def ti4 : TI := ⟨.bool, 1, 1, [.bool false], .row Ybn⟩
theorem Zdd : ti4.ok Tryz.prog 4 := ⟨Tryz.underlying4, ⟨Tryz.t4, _, Xct Tryz.type4, rfl, rfl, rfl, rfl⟩, rfl, rfl, by decide, ⟨Yyq, rfl, Ywe⟩⟩
def ti5 : TI := ⟨.int .u8, 1, 1, [.int .u8 0], .ints .u8⟩
theorem Zde : ti5.ok Tryz.prog 5 := ⟨Tryz.underlying5, ⟨Tryz.t5, _, Xct Tryz.type5, rfl, rfl, rfl, rfl⟩, rfl, rfl, by decide, ⟨rfl, rfl⟩⟩
def ti9 : TI := ⟨.str, 1, 16, [.str ⟨#[]⟩], .row Xbs⟩
theorem Zdf : ti9.ok Tryz.prog 9 := ⟨Tryz.underlying9, ⟨Tryz.t9, _, Xct Tryz.type9, rfl, rfl, rfl, rfl⟩, rfl, rfl, by decide, ⟨Ynl, rfl, Ykq⟩⟩
def Zd5 : TI := ⟨.slice 5, 1, 24, [.nil], .none⟩
theorem Zbw : Zd5.ok Tryz.prog 22 := ⟨Tryz.underlying22, ⟨Tryz.t22, _, Xct Tryz.type22, rfl, rfl, rfl, rfl⟩, rfl, rfl, by decide, trivial⟩
def Zd6 : TI := ⟨.slice 9, 1, 24, [.nil], .none⟩
theorem Zbx : Zd6.ok Tryz.prog 24 := ⟨Tryz.underlying24, ⟨Tryz.t24, _, Xct Tryz.type24, rfl, rfl, rfl, rfl⟩, rfl, rfl, by decide, trivial⟩
def Zd7 : TI := ⟨.slice 3, 1, 24, [.nil], .row Xqf⟩
theorem Zby : Zd7.ok Tryz.prog 26 := ⟨Tryz.underlying26, ⟨Tryz.t26, _, Xct Tryz.type26, rfl, rfl, rfl, rfl⟩, rfl, rfl, by decide, ⟨Yr5, rfl, Yp0⟩⟩
def Zd8 : TI := ⟨.struct [(0, 3, 1), (1, 3, 1), (2, 26, 1), (3, 26, 1)], 4, 64, [.int .i64 0, .int .i64 0, .nil, .nil], .none⟩
theorem Zbz : Zd8.ok Tryz.prog 29 := ⟨⟨_, Tryz.underlying29, rfl, fun w => by simp [Tryz.sizeOf26, Tryz.sizeOf3]⟩, ⟨Tryz.t29, _, Xct Tryz.type29, rfl, rfl, rfl, rfl⟩, rfl, rfl, by decide, trivial⟩
def Zd9 : TI := ⟨.struct [(0, 3, 1), (1, 4, 1), (2, 4, 1), (3, 4, 1)], 4, 16, [.int .i64 0, .bool false, .bool false, .bool false], .none⟩
theorem Zb0 : Zd9.ok Tryz.prog 31 := ⟨⟨_, Tryz.underlying31, rfl, fun w => by simp [Tryz.sizeOf3, Tryz.sizeOf4]⟩, ⟨Tryz.t31, _, Xct Tryz.type31, rfl, rfl, rfl, rfl⟩, rfl, rfl, by decide, trivial⟩
def Zea : TI := ⟨.struct [(0, 3, 1), (1, 3, 1), (2, 9, 1)], 3, 32, [.int .i64 0, .int .i64 0, .str ⟨#[]⟩], .row Yu0⟩
theorem Zb1 : Zea.ok Tryz.prog 33 := ⟨⟨_, Tryz.underlying33, rfl, fun w => by simp [Tryz.sizeOf3, Tryz.sizeOf9]⟩, ⟨Tryz.t33, _, Xct Tryz.type33, rfl, rfl, rfl, rfl⟩, rfl, rfl, by decide, ⟨Za3, rfl, Yyr⟩⟩
def Zeb : TI := ⟨.slice 33, 1, 24, [.nil], .none⟩
theorem Zb2 : Zeb.ok Tryz.prog 36 := ⟨Tryz.underlying36, ⟨Tryz.t36, _, Xct Tryz.type36, rfl, rfl, rfl, rfl⟩, rfl, rfl, by decide, trivial⟩
def Zec : TI := ⟨.struct [(0, 3, 1), (1, 3, 1), (2, 3, 1)], 3, 24, [.int .i64 0, .int .i64 0, .int .i64 0], .none⟩
theorem Zb3 : Zec.ok Tryz.prog 41 := ⟨⟨_, Tryz.underlying41, rfl, fun w => by simp [Tryz.sizeOf3]⟩, ⟨Tryz.t41, _, Xct Tryz.type41, rfl, rfl, rfl, rfl⟩, rfl, rfl, by decide, trivial⟩
def Zed : TI := ⟨.struct [(0, 3, 1), (1, 3, 1), (2, 3, 1)], 3, 24, [.int .i64 0, .int .i64 0, .int .i64 0], .none⟩
theorem Zb4 : Zed.ok Tryz.prog 53 := ⟨⟨_, Tryz.underlying53, rfl, fun w => by simp [Tryz.sizeOf3]⟩, ⟨Tryz.t53, _, Xct Tryz.type53, rfl, rfl, rfl, rfl⟩, rfl, rfl, by decide, trivial⟩
def Zee : TI := ⟨.struct [(0, 29, 4), (4, 31, 4), (8, 53, 3), (11, 3, 1), (12, 3, 1), (13, 3, 1), (14, 3, 1), (15, 4, 1), (16, 33, 3)], 19, 176, [.int .i64 0, .int .i64 0, .nil, .nil, .int .i64 0, .bool false, .bool false, .bool false, .int .i64 0, .int .i64 0, .int .i64 0, .int .i64 0, .int .i64 0, .int .i64 0, .int .i64 0, .bool false, .int .i64 0, .int .i64 0, .str ⟨#[]⟩], .none⟩
theorem Zb5 : Zee.ok Tryz.prog 55 := ⟨⟨_, Tryz.underlying55, rfl, fun w => by simp [Tryz.sizeOf29, Tryz.sizeOf3, Tryz.sizeOf31, Tryz.sizeOf33, Tryz.sizeOf4, Tryz.sizeOf53]⟩, ⟨Tryz.t55, _, Xct Tryz.type55, rfl, rfl, rfl, rfl⟩, rfl, rfl, by decide, trivial⟩
def Zef : TI := ⟨.slice 4, 1, 24, [.nil], .none⟩
theorem Zb6 : Zef.ok Tryz.prog 56 := ⟨Tryz.underlying56, ⟨Tryz.t56, _, Xct Tryz.type56, rfl, rfl, rfl, rfl⟩, rfl, rfl, by decide, trivial⟩
def Zeg : TI := ⟨.struct [(0, 4, 1), (1, 4, 1), (2, 29, 4), (6, 31, 4), (10, 3, 1), (11, 3, 1), (12, 3, 1)], 13, 112, [.bool false, .bool false, .int .i64 0, .int .i64 0, .nil, .nil, .int .i64 0, .bool false, .bool false, .bool false, .int .i64 0, .int .i64 0, .int .i64 0], .none⟩
theorem Zb7 : Zeg.ok Tryz.prog 65 := ⟨⟨_, Tryz.underlying65, rfl, fun w => by simp [Tryz.sizeOf29, Tryz.sizeOf3, Tryz.sizeOf31, Tryz.sizeOf4]⟩, ⟨Tryz.t65, _, Xct Tryz.type65, rfl, rfl, rfl, rfl⟩, rfl, rfl, by decide, trivial⟩
def Zeh : TI := ⟨.struct [(0, 4, 1), (1, 3, 1), (2, 9, 1)], 3, 32, [.bool false, .int .i64 0, .str ⟨#[]⟩], .none⟩
theorem Zb8 : Zeh.ok Tryz.prog 67 := ⟨⟨_, Tryz.underlying67, rfl, fun w => by simp [Tryz.sizeOf3, Tryz.sizeOf4, Tryz.sizeOf9]⟩, ⟨Tryz.t67, _, Xct Tryz.type67, rfl, rfl, rfl, rfl⟩, rfl, rfl, by decide, trivial⟩
def Zei : TI := ⟨.struct [(0, 3, 1), (1, 3, 1), (2, 3, 1), (3, 3, 1)], 4, 32, [.int .i64 0, .int .i64 0, .int .i64 0, .int .i64 0], .none⟩
theorem Zb9 : Zei.ok Tryz.prog 73 := ⟨⟨_, Tryz.underlying73, rfl, fun w => by simp [Tryz.sizeOf3]⟩, ⟨Tryz.t73, _, Xct Tryz.type73, rfl, rfl, rfl, rfl⟩, rfl, rfl, by decide, trivial⟩
def Zc1 : TI := ⟨.struct [(0, 4, 1), (1, 3, 1), (2, 4, 1), (3, 4, 1)], 4, 24, [.bool false, .int .i64 0, .bool false, .bool false], .none⟩
theorem Yzt : Zc1.ok Tryz.prog 114 := ⟨⟨_, Tryz.underlying114, rfl, fun w => by simp [Tryz.sizeOf3, Tryz.sizeOf4]⟩, ⟨Tryz.t114, _, Xct Tryz.type114, rfl, rfl, rfl, rfl⟩, rfl, rfl, by decide, trivial⟩
def Zc2 : TI := ⟨.slice 166, 1, 24, [.nil], .none⟩
theorem Yzu : Zc2.ok Tryz.prog 115 := ⟨Tryz.underlying115, ⟨Tryz.t115, _, Xct Tryz.type115, rfl, rfl, rfl, rfl⟩, rfl, rfl, by decide, trivial⟩
def Zc3 : TI := ⟨.int .u64, 1, 8, [.int .u64 0], .ints .u64⟩
theorem Yzv : Zc3.ok Tryz.prog 138 := ⟨Tryz.underlying138, ⟨Tryz.t138, _, Xct Tryz.type138, rfl, rfl, rfl, rfl⟩, rfl, rfl, by decide, ⟨rfl, rfl⟩⟩
def Zc4 : TI := ⟨.struct [(0, 9, 1), (1, 3, 1), (2, 4, 1)], 3, 32, [.str ⟨#[]⟩, .int .i64 0, .bool false], .none⟩
theorem Yzw : Zc4.ok Tryz.prog 146 := ⟨⟨_, Tryz.underlying146, rfl, fun w => by simp [Tryz.sizeOf3, Tryz.sizeOf4, Tryz.sizeOf9]⟩, ⟨Tryz.t146, _, Xct Tryz.type146, rfl, rfl, rfl, rfl⟩, rfl, rfl, by decide, trivial⟩
def Zc5 : TI := ⟨.struct [(0, 22, 1), (1, 3, 1), (2, 3, 1)], 3, 40, [.nil, .int .i64 0, .int .i64 0], .none⟩
theorem Yzx : Zc5.ok Tryz.prog 150 := ⟨⟨_, Tryz.underlying150, rfl, fun w => by simp [Tryz.sizeOf22, Tryz.sizeOf3]⟩, ⟨Tryz.t150, _, Xct Tryz.type150, rfl, rfl, rfl, rfl⟩, rfl, rfl, by decide, trivial⟩
def Zc6 : TI := ⟨.struct [(0, 3, 1), (1, 3, 1), (2, 3, 1), (3, 3, 1), (4, 26, 1)], 5, 56, [.int .i64 0, .int .i64 0, .int .i64 0, .int .i64 0, .nil], .row Xdh⟩
theorem Yzy : Zc6.ok Tryz.prog 166 := ⟨⟨_, Tryz.underlying166, rfl, fun w => by simp [Tryz.sizeOf26, Tryz.sizeOf3]⟩, ⟨Tryz.t166, _, Xct Tryz.type166, rfl, rfl, rfl, rfl⟩, rfl, rfl, by decide, ⟨Yu1, rfl, Yr6⟩⟩
def Zc7 : TI := ⟨.slice 26, 1, 24, [.nil], .none⟩
theorem Yzz : Zc7.ok Tryz.prog 185 := ⟨Tryz.underlying185, ⟨Tryz.t185, _, Xct Tryz.type185, rfl, rfl, rfl, rfl⟩, rfl, rfl, by decide, trivial⟩
def Zc8 : TI := ⟨.struct [(0, 26, 1), (1, 26, 1), (2, 3, 1)], 3, 56, [.nil, .nil, .int .i64 0], .none⟩
theorem Yz0 : Zc8.ok Tryz.prog 193 := ⟨⟨_, Tryz.underlying193, rfl, fun w => by simp [Tryz.sizeOf26, Tryz.sizeOf3]⟩, ⟨Tryz.t193, _, Xct Tryz.type193, rfl, rfl, rfl, rfl⟩, rfl, rfl, by decide, trivial⟩
def Zc9 : TI := ⟨.arr 4 3, 4, 32, [.int .i64 0, .int .i64 0, .int .i64 0, .int .i64 0], .none⟩
theorem Yz1 : Zc9.ok Tryz.prog 220 := ⟨Tryz.underlying220, ⟨Tryz.t220, _, Xct Tryz.type220, rfl, rfl, rfl, rfl⟩, rfl, rfl, by decide, trivial⟩
def Zda : TI := ⟨.arr 3 3, 3, 24, [.int .i64 0, .int .i64 0, .int .i64 0], .none⟩
theorem Yz2 : Zda.ok Tryz.prog 225 := ⟨Tryz.underlying225, ⟨Tryz.t225, _, Xct Tryz.type225, rfl, rfl, rfl, rfl⟩, rfl, rfl, by decide, trivial⟩
def Zdb : TI := ⟨.arr 6 225, 18, 144, [.int .i64 0, .int .i64 0, .int .i64 0, .int .i64 0, .int .i64 0, .int .i64 0, .int .i64 0, .int .i64 0, .int .i64 0, .int .i64 0, .int .i64 0, .int .i64 0, .int .i64 0, .int .i64 0, .int .i64 0, .int .i64 0, .int .i64 0, .int .i64 0], .none⟩
theorem Yz3 : Zdb.ok Tryz.prog 226 := ⟨Tryz.underlying226, ⟨Tryz.t226, _, Xct Tryz.type226, rfl, rfl, rfl, rfl⟩, rfl, rfl, by decide, trivial⟩
def T : Nat → Option TI := lkT [(3, ti3), (4, ti4), (9, ti9), (5, ti5), (22, Zd5), (24, Zd6), (26, Zd7), (29, Zd8), (31, Zd9), (33, Zea), (36, Zeb), (41, Zec), (53, Zed), (55, Zee), (56, Zef), (65, Zeg), (67, Zeh), (73, Zei), (114, Zc1), (115, Zc2), (138, Zc3), (146, Zc4), (150, Zc5), (166, Zc6), (185, Zc7), (193, Zc8), (220, Zc9), (225, Zda), (226, Zdb)]
theorem hT : TOk Tryz.prog T := Zbe (by
 intro p hp
 simp only [List.mem_cons, List.not_mem_nil, or_false] at hp
 rcases hp with rfl | rfl | rfl | rfl | rfl | rfl | rfl | rfl | rfl | rfl | rfl | rfl | rfl | rfl | rfl | rfl | rfl | rfl | rfl | rfl | rfl | rfl | rfl | rfl | rfl | rfl | rfl | rfl | rfl
 ·
  exact Zdc
 ·
  exact Zdd
 ·
  exact Zdf
 ·
  exact Zde
 ·
  exact Zbw
 ·
  exact Zbx
 ·
  exact Zby
 ·
  exact Zbz
 ·
  exact Zb0
 ·
  exact Zb1
 ·
  exact Zb2
 ·
  exact Zb3
 ·
  exact Zb4
 ·
  exact Zb5
 ·
  exact Zb6
 ·
  exact Zb7
 ·
  exact Zb8
 ·
  exact Zb9
 ·
  exact Yzt
 ·
  exact Yzu
 ·
  exact Yzv
 ·
  exact Yzw
 ·
  exact Yzx
 ·
  exact Yzy
 ·
  exact Yzz
 ·
  exact Yz0
 ·
  exact Yz1
 ·
  exact Yz2
 ·
  exact Yz3)
theorem hm : Tryz.prog.follows .mixedOrders = true := by kernel_rfl
theorem Zdv (d : Nat) (w : World) (x0 y0 : Int) (x1 y1 : Bool) (x2 y2 : Bool) (x3 y3 : Bool) : (Op.equalIn (d + 2) 31 (.agg #[.int .i64 x0, .bool x1, .bool x2, .bool x3]) (.agg #[.int .i64 y0, .bool y1, .bool y2, .bool y3])).run Tryz.prog w = .ok ((x0 == y0) && ((x1 == y1) && ((x2 == y2) && (x3 == y3)))) w := by
 refine Zae Tryz.underlying31 (by kernel_rfl) ?_
 refine Xy7 (by rfl) (by go_simp; rfl) (by go_simp; rfl) (by go_simp) ?_
 refine Xy7 (by rfl) (by go_simp; rfl) (by go_simp; rfl) (by go_simp) ?_
 refine Xy7 (by rfl) (by go_simp; rfl) (by go_simp; rfl) (by go_simp) ?_
 exact Ytg (by rfl) (by go_simp; rfl) (by go_simp; rfl) (by go_simp)
theorem Zco {x0 y0 : Int} {x1 y1 : Bool} {x2 y2 : Bool} {x3 y3 : Bool} : EqT Tryz.prog 31 [.int .i64 x0, .bool x1, .bool x2, .bool x3] [.int .i64 y0, .bool y1, .bool y2, .bool y3] ((x0 == y0) && ((x1 == y1) && ((x2 == y2) && (x3 == y3)))) := ⟨by kernel_rfl, rfl, rfl, fun w => Zdv 9998 w _ _ _ _ _ _ _ _⟩
theorem Zdw (d : Nat) (w : World) (x0 y0 : Int) (x1 y1 : Int) (x2 y2 : ByteArray) : (Op.equalIn (d + 2) 33 (.agg #[.int .i64 x0, .int .i64 x1, .string x2]) (.agg #[.int .i64 y0, .int .i64 y1, .string y2])).run Tryz.prog w = .ok ((x0 == y0) && ((x1 == y1) && (x2.toList == y2.toList))) w := by
 refine Zae Tryz.underlying33 (by kernel_rfl) ?_
 refine Xy7 (by rfl) (by go_simp; rfl) (by go_simp; rfl) (by go_simp) ?_
 refine Xy7 (by rfl) (by go_simp; rfl) (by go_simp; rfl) (by go_simp) ?_
 exact Ytg (by rfl) (by go_simp; rfl) (by go_simp; rfl) (by go_simp)
theorem Zaf {x0 y0 : Int} {x1 y1 : Int} {x2 y2 : ByteArray} : EqT Tryz.prog 33 [.int .i64 x0, .int .i64 x1, .str x2] [.int .i64 y0, .int .i64 y1, .str y2] ((x0 == y0) && ((x1 == y1) && (x2.toList == y2.toList))) := ⟨by kernel_rfl, rfl, rfl, fun w => Zdw 9998 w _ _ _ _ _ _⟩
end Go.Proofs.YtnhflbeahbcklaaGreat.A
