/- The types of the program, as the abstract logic reads them. Written by a program of this session. Conditions: none. -/
import Derived.Test.YtnhflbeahbcklaaGreatDFnMovie
import Derived.Test.YtnhflbeahbcklaaGreatRows
import Derived.KernelRfl
namespace Go.Proofs.YtnhflbeahbcklaaGreat.A
open Go Go.Proofs Go.Proofs.YtnhflbeahbcklaaGreatAL Go.RowKit
set_option linter.unusedVariables false
set_option linter.unusedSimpArgs false
def Ywj (x : Bool) : List SV := [.bool x]
def Za7 : List SV → Option Bool
 | [x0] => (match gB x0 with | some a0 => some a0 | _ => none)
 | _ => none
abbrev Ybe : Xud := ⟨Bool, Yuy, 1, Ywj, Za7⟩
theorem Yyp : Ybe.ok := by
 refine ⟨fun _ => rfl, by decide, fun cs x h => ?_⟩
 change Za7 cs = some x at h
 unfold Za7 at h
 split at h
 ·
  split at h
  ·
   cases h
   refine ⟨rfl, fun j y hy => ?_⟩
   change (Ywj _)[j]? = some y at hy
   rcases j with _ | _
   ·
    cases hy; exact ⟨_, rfl, Zcc (by assumption)⟩
   ·
    simp [Ywj] at hy
  ·
   cases h
 ·
  cases h
theorem Ywc : Xws [.bool false] (Ybe.enc Ybe.d) := by
 intro j y hy
 change (Ywj _)[j]? = some y at hy
 rcases j with _ | _
 ·
  cases hy; exact ⟨_, rfl, fun _ _ _ h => h⟩
 ·
  simp [Ywj] at hy
theorem Ys8 (l : List Bool) : (l.filterMap fun y => Ybe.dec (Ybe.enc y)) = l := by
 rw [show (fun y => Ybe.dec (Ybe.enc y)) = some from funext fun y => rfl]; exact List.filterMap_some
def Xrp (x : ByteArray) : List SV := [.str x]
def Ycp : List SV → Option ByteArray
 | [x0] => (match gS x0 with | some a0 => some a0 | _ => none)
 | _ => none
abbrev Xco : Xud := ⟨ByteArray, Ybg, 1, Xrp, Ycp⟩
theorem Ynn : Xco.ok := by
 refine ⟨fun _ => rfl, by decide, fun cs x h => ?_⟩
 change Ycp cs = some x at h
 unfold Ycp at h
 split at h
 ·
  split at h
  ·
   cases h
   refine ⟨rfl, fun j y hy => ?_⟩
   change (Xrp _)[j]? = some y at hy
   rcases j with _ | _
   ·
    cases hy; exact ⟨_, rfl, Zad (by assumption)⟩
   ·
    simp [Xrp] at hy
  ·
   cases h
 ·
  cases h
theorem Ykj : Xws [.str ⟨#[]⟩] (Xco.enc Xco.d) := by
 intro j y hy
 change (Xrp _)[j]? = some y at hy
 rcases j with _ | _
 ·
  cases hy; exact ⟨_, rfl, fun _ _ _ h => h⟩
 ·
  simp [Xrp] at hy
theorem Xos (l : List ByteArray) : (l.filterMap fun y => Xco.dec (Xco.enc y)) = l := by
 rw [show (fun y => Xco.dec (Xco.enc y)) = some from funext fun y => rfl]; exact List.filterMap_some
def Xza (x : (List Int)) : List SV := [.ints .i64 x]
def Yoz : List SV → Option (List Int)
 | [x0] => (match gL .i64 x0 with | some a0 => some a0 | _ => none)
 | _ => none
abbrev Xqj : Xud := ⟨(List Int), Xgn, 1, Xza, Yoz⟩
theorem Yr6 : Xqj.ok := by
 refine ⟨fun _ => rfl, by decide, fun cs x h => ?_⟩
 change Yoz cs = some x at h
 unfold Yoz at h
 split at h
 ·
  split at h
  ·
   cases h
   refine ⟨rfl, fun j y hy => ?_⟩
   change (Xza _)[j]? = some y at hy
   rcases j with _ | _
   ·
    cases hy; exact ⟨_, rfl, Ytg (by assumption)⟩
   ·
    simp [Xza] at hy
  ·
   cases h
 ·
  cases h
theorem Yp3 : Xws [.nil] (Xqj.enc Xqj.d) := by
 intro j y hy
 change (Xza _)[j]? = some y at hy
 rcases j with _ | _
 ·
  cases hy; exact ⟨_, rfl, Ytg (k := .i64) rfl⟩
 ·
  simp [Xza] at hy
theorem Zau (l : List (List Int)) : (l.filterMap fun y => Xqj.dec (Xqj.enc y)) = l := by
 rw [show (fun y => Xqj.dec (Xqj.enc y)) = some from funext fun y => rfl]; exact List.filterMap_some
def Zca (x : Pic) : List SV := [.int .i64 x.Wide, .int .i64 x.High, .str x.Dots]
def Zdo : List SV → Option Pic
 | [x0, x1, x2] => (match gI .i64 x0, gI .i64 x1, gS x2 with | some a0, some a1, some a2 => some ⟨a0, a1, a2⟩ | _, _, _ => none)
 | _ => none
abbrev Yno : Xud := ⟨Pic, Yrw, 3, Zca, Zdo⟩
theorem Zav : Yno.ok := by
 refine ⟨fun _ => rfl, by decide, fun cs x h => ?_⟩
 change Zdo cs = some x at h
 unfold Zdo at h
 split at h
 ·
  split at h
  ·
   cases h
   refine ⟨rfl, fun j y hy => ?_⟩
   change (Zca _)[j]? = some y at hy
   rcases j with _ | _ | _ | _
   ·
    cases hy; exact ⟨_, rfl, Ymp (by assumption)⟩
   ·
    cases hy; exact ⟨_, rfl, Ymp (by assumption)⟩
   ·
    cases hy; exact ⟨_, rfl, Zad (by assumption)⟩
   ·
    simp [Zca] at hy
  ·
   cases h
 ·
  cases h
theorem Yyq : Xws [.int .i64 0, .int .i64 0, .str ⟨#[]⟩] (Yno.enc Yno.d) := by
 intro j y hy
 change (Zca _)[j]? = some y at hy
 rcases j with _ | _ | _ | _
 ·
  cases hy; exact ⟨_, rfl, fun _ _ _ h => h⟩
 ·
  cases hy; exact ⟨_, rfl, fun _ _ _ h => h⟩
 ·
  cases hy; exact ⟨_, rfl, fun _ _ _ h => h⟩
 ·
  simp [Zca] at hy
theorem Ynp (l : List Pic) : (l.filterMap fun y => Yno.dec (Yno.enc y)) = l := by
 rw [show (fun y => Yno.dec (Yno.enc y)) = some from funext fun y => rfl]; exact List.filterMap_some
def Ygy (x : Xam) : List SV := [.int .i64 x.Kind, .int .i64 x.Mode, .int .i64 x.Dx, .int .i64 x.Dy, .ints .i64 x.Levels]
def Ysq : List SV → Option Xam
 | [x0, x1, x2, x3, x4] => (match gI .i64 x0, gI .i64 x1, gI .i64 x2, gI .i64 x3, gL .i64 x4 with | some a0, some a1, some a2, some a3, some a4 => some ⟨a0, a1, a2, a3, a4⟩ | _, _, _, _, _ => none)
 | _ => none
abbrev Xdq : Xud := ⟨Xam, Xgo, 5, Ygy, Ysq⟩
theorem Yuu : Xdq.ok := by
 refine ⟨fun _ => rfl, by decide, fun cs x h => ?_⟩
 change Ysq cs = some x at h
 unfold Ysq at h
 split at h
 ·
  split at h
  ·
   cases h
   refine ⟨rfl, fun j y hy => ?_⟩
   change (Ygy _)[j]? = some y at hy
   rcases j with _ | _ | _ | _ | _ | _
   ·
    cases hy; exact ⟨_, rfl, Ymp (by assumption)⟩
   ·
    cases hy; exact ⟨_, rfl, Ymp (by assumption)⟩
   ·
    cases hy; exact ⟨_, rfl, Ymp (by assumption)⟩
   ·
    cases hy; exact ⟨_, rfl, Ymp (by assumption)⟩
   ·
    cases hy; exact ⟨_, rfl, Ytg (by assumption)⟩
   ·
    simp [Ygy] at hy
  ·
   cases h
 ·
  cases h
theorem Yr7 : Xws [.int .i64 0, .int .i64 0, .int .i64 0, .int .i64 0, .nil] (Xdq.enc Xdq.d) := by
 intro j y hy
 change (Ygy _)[j]? = some y at hy
 rcases j with _ | _ | _ | _ | _ | _
 ·
  cases hy; exact ⟨_, rfl, fun _ _ _ h => h⟩
 ·
  cases hy; exact ⟨_, rfl, fun _ _ _ h => h⟩
 ·
  cases hy; exact ⟨_, rfl, fun _ _ _ h => h⟩
 ·
  cases hy; exact ⟨_, rfl, fun _ _ _ h => h⟩
 ·
  cases hy; exact ⟨_, rfl, Ytg (k := .i64) rfl⟩
 ·
  simp [Ygy] at hy
theorem Xvo (l : List Xam) : (l.filterMap fun y => Xdq.dec (Xdq.enc y)) = l := by
 rw [show (fun y => Xdq.dec (Xdq.enc y)) = some from funext fun y => rfl]; exact List.filterMap_some
def ti3 : TI := ⟨.int .i64, 1, 8, [.int .i64 0], .ints .i64⟩
theorem Zcy : ti3.ok Tryz.prog 3 := ⟨Tryz.underlying3, ⟨Tryz.t3, _, Xc6 Tryz.type3, rfl, rfl, rfl, rfl⟩, rfl, rfl, by decide, ⟨rfl, rfl⟩⟩
def ti4 : TI := ⟨.bool, 1, 1, [.bool false], .row Ybe⟩
theorem Zcz : ti4.ok Tryz.prog 4 := ⟨Tryz.underlying4, ⟨Tryz.t4, _, Xc6 Tryz.type4, rfl, rfl, rfl, rfl⟩, rfl, rfl, by decide, ⟨Yyp, rfl, Ywc⟩⟩
def ti5 : TI := ⟨.int .u8, 1, 1, [.int .u8 0], .ints .u8⟩
theorem Zc0 : ti5.ok Tryz.prog 5 := ⟨Tryz.underlying5, ⟨Tryz.t5, _, Xc6 Tryz.type5, rfl, rfl, rfl, rfl⟩, rfl, rfl, by decide, ⟨rfl, rfl⟩⟩
def ti9 : TI := ⟨.str, 1, 16, [.str ⟨#[]⟩], .row Xco⟩
theorem Zc1 : ti9.ok Tryz.prog 9 := ⟨Tryz.underlying9, ⟨Tryz.t9, _, Xc6 Tryz.type9, rfl, rfl, rfl, rfl⟩, rfl, rfl, by decide, ⟨Ynn, rfl, Ykj⟩⟩
def Zdt : TI := ⟨.slice 5, 1, 24, [.nil], .none⟩
theorem Zbk : Zdt.ok Tryz.prog 22 := ⟨Tryz.underlying22, ⟨Tryz.t22, _, Xc6 Tryz.type22, rfl, rfl, rfl, rfl⟩, rfl, rfl, by decide, trivial⟩
def Zdu : TI := ⟨.slice 9, 1, 24, [.nil], .none⟩
theorem Zbl : Zdu.ok Tryz.prog 24 := ⟨Tryz.underlying24, ⟨Tryz.t24, _, Xc6 Tryz.type24, rfl, rfl, rfl, rfl⟩, rfl, rfl, by decide, trivial⟩
def Zdv : TI := ⟨.slice 3, 1, 24, [.nil], .row Xqj⟩
theorem Zbm : Zdv.ok Tryz.prog 26 := ⟨Tryz.underlying26, ⟨Tryz.t26, _, Xc6 Tryz.type26, rfl, rfl, rfl, rfl⟩, rfl, rfl, by decide, ⟨Yr6, rfl, Yp3⟩⟩
def Zdw : TI := ⟨.struct [(0, 3, 1), (1, 3, 1), (2, 26, 1), (3, 26, 1)], 4, 64, [.int .i64 0, .int .i64 0, .nil, .nil], .none⟩
theorem Zbn : Zdw.ok Tryz.prog 29 := ⟨⟨_, Tryz.underlying29, rfl, fun w => by simp [Tryz.sizeOf26, Tryz.sizeOf3]⟩, ⟨Tryz.t29, _, Xc6 Tryz.type29, rfl, rfl, rfl, rfl⟩, rfl, rfl, by decide, trivial⟩
def Zdx : TI := ⟨.struct [(0, 3, 1), (1, 4, 1), (2, 4, 1), (3, 4, 1)], 4, 16, [.int .i64 0, .bool false, .bool false, .bool false], .none⟩
theorem Zbo : Zdx.ok Tryz.prog 31 := ⟨⟨_, Tryz.underlying31, rfl, fun w => by simp [Tryz.sizeOf3, Tryz.sizeOf4]⟩, ⟨Tryz.t31, _, Xc6 Tryz.type31, rfl, rfl, rfl, rfl⟩, rfl, rfl, by decide, trivial⟩
def Zdy : TI := ⟨.struct [(0, 3, 1), (1, 3, 1), (2, 9, 1)], 3, 32, [.int .i64 0, .int .i64 0, .str ⟨#[]⟩], .row Yno⟩
theorem Zbp : Zdy.ok Tryz.prog 33 := ⟨⟨_, Tryz.underlying33, rfl, fun w => by simp [Tryz.sizeOf3, Tryz.sizeOf9]⟩, ⟨Tryz.t33, _, Xc6 Tryz.type33, rfl, rfl, rfl, rfl⟩, rfl, rfl, by decide, ⟨Zav, rfl, Yyq⟩⟩
def Zdz : TI := ⟨.struct [(0, 4, 1), (1, 4, 1), (2, 4, 1), (3, 29, 4), (7, 31, 4), (11, 3, 1), (12, 3, 1), (13, 33, 3), (16, 33, 3)], 19, 168, [.bool false, .bool false, .bool false, .int .i64 0, .int .i64 0, .nil, .nil, .int .i64 0, .bool false, .bool false, .bool false, .int .i64 0, .int .i64 0, .int .i64 0, .int .i64 0, .str ⟨#[]⟩, .int .i64 0, .int .i64 0, .str ⟨#[]⟩], .none⟩
theorem Zbq : Zdz.ok Tryz.prog 35 := ⟨⟨_, Tryz.underlying35, rfl, fun w => by simp [Tryz.sizeOf29, Tryz.sizeOf3, Tryz.sizeOf31, Tryz.sizeOf33, Tryz.sizeOf4]⟩, ⟨Tryz.t35, _, Xc6 Tryz.type35, rfl, rfl, rfl, rfl⟩, rfl, rfl, by decide, trivial⟩
def Zd0 : TI := ⟨.slice 33, 1, 24, [.nil], .none⟩
theorem Zbr : Zd0.ok Tryz.prog 36 := ⟨Tryz.underlying36, ⟨Tryz.t36, _, Xc6 Tryz.type36, rfl, rfl, rfl, rfl⟩, rfl, rfl, by decide, trivial⟩
def Zd1 : TI := ⟨.struct [(0, 3, 1), (1, 3, 1), (2, 3, 1)], 3, 24, [.int .i64 0, .int .i64 0, .int .i64 0], .none⟩
theorem Zbs : Zd1.ok Tryz.prog 41 := ⟨⟨_, Tryz.underlying41, rfl, fun w => by simp [Tryz.sizeOf3]⟩, ⟨Tryz.t41, _, Xc6 Tryz.type41, rfl, rfl, rfl, rfl⟩, rfl, rfl, by decide, trivial⟩
def Zd2 : TI := ⟨.struct [(0, 3, 1), (1, 3, 1), (2, 3, 1)], 3, 24, [.int .i64 0, .int .i64 0, .int .i64 0], .none⟩
theorem Zbt : Zd2.ok Tryz.prog 53 := ⟨⟨_, Tryz.underlying53, rfl, fun w => by simp [Tryz.sizeOf3]⟩, ⟨Tryz.t53, _, Xc6 Tryz.type53, rfl, rfl, rfl, rfl⟩, rfl, rfl, by decide, trivial⟩
def Zd3 : TI := ⟨.struct [(0, 29, 4), (4, 31, 4), (8, 53, 3), (11, 3, 1), (12, 3, 1), (13, 3, 1), (14, 3, 1), (15, 4, 1), (16, 33, 3)], 19, 176, [.int .i64 0, .int .i64 0, .nil, .nil, .int .i64 0, .bool false, .bool false, .bool false, .int .i64 0, .int .i64 0, .int .i64 0, .int .i64 0, .int .i64 0, .int .i64 0, .int .i64 0, .bool false, .int .i64 0, .int .i64 0, .str ⟨#[]⟩], .none⟩
theorem Zbu : Zd3.ok Tryz.prog 55 := ⟨⟨_, Tryz.underlying55, rfl, fun w => by simp [Tryz.sizeOf29, Tryz.sizeOf3, Tryz.sizeOf31, Tryz.sizeOf33, Tryz.sizeOf4, Tryz.sizeOf53]⟩, ⟨Tryz.t55, _, Xc6 Tryz.type55, rfl, rfl, rfl, rfl⟩, rfl, rfl, by decide, trivial⟩
def Zd4 : TI := ⟨.slice 4, 1, 24, [.nil], .none⟩
theorem Zbv : Zd4.ok Tryz.prog 56 := ⟨Tryz.underlying56, ⟨Tryz.t56, _, Xc6 Tryz.type56, rfl, rfl, rfl, rfl⟩, rfl, rfl, by decide, trivial⟩
def Zd5 : TI := ⟨.struct [(0, 3, 1), (1, 3, 1), (2, 3, 1), (3, 3, 1)], 4, 32, [.int .i64 0, .int .i64 0, .int .i64 0, .int .i64 0], .none⟩
theorem Zbw : Zd5.ok Tryz.prog 73 := ⟨⟨_, Tryz.underlying73, rfl, fun w => by simp [Tryz.sizeOf3]⟩, ⟨Tryz.t73, _, Xc6 Tryz.type73, rfl, rfl, rfl, rfl⟩, rfl, rfl, by decide, trivial⟩
def Zcn : TI := ⟨.struct [(0, 4, 1), (1, 3, 1), (2, 4, 1), (3, 4, 1)], 4, 24, [.bool false, .int .i64 0, .bool false, .bool false], .none⟩
theorem Yzq : Zcn.ok Tryz.prog 114 := ⟨⟨_, Tryz.underlying114, rfl, fun w => by simp [Tryz.sizeOf3, Tryz.sizeOf4]⟩, ⟨Tryz.t114, _, Xc6 Tryz.type114, rfl, rfl, rfl, rfl⟩, rfl, rfl, by decide, trivial⟩
def Zco : TI := ⟨.slice 166, 1, 24, [.nil], .none⟩
theorem Yzr : Zco.ok Tryz.prog 115 := ⟨Tryz.underlying115, ⟨Tryz.t115, _, Xc6 Tryz.type115, rfl, rfl, rfl, rfl⟩, rfl, rfl, by decide, trivial⟩
def Zcp : TI := ⟨.int .u64, 1, 8, [.int .u64 0], .ints .u64⟩
theorem Yzs : Zcp.ok Tryz.prog 138 := ⟨Tryz.underlying138, ⟨Tryz.t138, _, Xc6 Tryz.type138, rfl, rfl, rfl, rfl⟩, rfl, rfl, by decide, ⟨rfl, rfl⟩⟩
def Zcq : TI := ⟨.struct [(0, 9, 1), (1, 3, 1), (2, 4, 1)], 3, 32, [.str ⟨#[]⟩, .int .i64 0, .bool false], .none⟩
theorem Yzt : Zcq.ok Tryz.prog 146 := ⟨⟨_, Tryz.underlying146, rfl, fun w => by simp [Tryz.sizeOf3, Tryz.sizeOf4, Tryz.sizeOf9]⟩, ⟨Tryz.t146, _, Xc6 Tryz.type146, rfl, rfl, rfl, rfl⟩, rfl, rfl, by decide, trivial⟩
def Zcr : TI := ⟨.struct [(0, 22, 1), (1, 3, 1), (2, 3, 1)], 3, 40, [.nil, .int .i64 0, .int .i64 0], .none⟩
theorem Yzu : Zcr.ok Tryz.prog 150 := ⟨⟨_, Tryz.underlying150, rfl, fun w => by simp [Tryz.sizeOf22, Tryz.sizeOf3]⟩, ⟨Tryz.t150, _, Xc6 Tryz.type150, rfl, rfl, rfl, rfl⟩, rfl, rfl, by decide, trivial⟩
def Zcs : TI := ⟨.struct [(0, 3, 1), (1, 3, 1), (2, 3, 1), (3, 3, 1), (4, 26, 1)], 5, 56, [.int .i64 0, .int .i64 0, .int .i64 0, .int .i64 0, .nil], .row Xdq⟩
theorem Yzv : Zcs.ok Tryz.prog 166 := ⟨⟨_, Tryz.underlying166, rfl, fun w => by simp [Tryz.sizeOf26, Tryz.sizeOf3]⟩, ⟨Tryz.t166, _, Xc6 Tryz.type166, rfl, rfl, rfl, rfl⟩, rfl, rfl, by decide, ⟨Yuu, rfl, Yr7⟩⟩
def Zct : TI := ⟨.slice 26, 1, 24, [.nil], .none⟩
theorem Yzw : Zct.ok Tryz.prog 185 := ⟨Tryz.underlying185, ⟨Tryz.t185, _, Xc6 Tryz.type185, rfl, rfl, rfl, rfl⟩, rfl, rfl, by decide, trivial⟩
def Zcu : TI := ⟨.struct [(0, 26, 1), (1, 26, 1), (2, 3, 1)], 3, 56, [.nil, .nil, .int .i64 0], .none⟩
theorem Yzx : Zcu.ok Tryz.prog 193 := ⟨⟨_, Tryz.underlying193, rfl, fun w => by simp [Tryz.sizeOf26, Tryz.sizeOf3]⟩, ⟨Tryz.t193, _, Xc6 Tryz.type193, rfl, rfl, rfl, rfl⟩, rfl, rfl, by decide, trivial⟩
def Zcv : TI := ⟨.arr 4 3, 4, 32, [.int .i64 0, .int .i64 0, .int .i64 0, .int .i64 0], .none⟩
theorem Yzy : Zcv.ok Tryz.prog 220 := ⟨Tryz.underlying220, ⟨Tryz.t220, _, Xc6 Tryz.type220, rfl, rfl, rfl, rfl⟩, rfl, rfl, by decide, trivial⟩
def Zcw : TI := ⟨.arr 3 3, 3, 24, [.int .i64 0, .int .i64 0, .int .i64 0], .none⟩
theorem Yzz : Zcw.ok Tryz.prog 225 := ⟨Tryz.underlying225, ⟨Tryz.t225, _, Xc6 Tryz.type225, rfl, rfl, rfl, rfl⟩, rfl, rfl, by decide, trivial⟩
def Zcx : TI := ⟨.arr 6 225, 18, 144, [.int .i64 0, .int .i64 0, .int .i64 0, .int .i64 0, .int .i64 0, .int .i64 0, .int .i64 0, .int .i64 0, .int .i64 0, .int .i64 0, .int .i64 0, .int .i64 0, .int .i64 0, .int .i64 0, .int .i64 0, .int .i64 0, .int .i64 0, .int .i64 0], .none⟩
theorem Yz0 : Zcx.ok Tryz.prog 226 := ⟨Tryz.underlying226, ⟨Tryz.t226, _, Xc6 Tryz.type226, rfl, rfl, rfl, rfl⟩, rfl, rfl, by decide, trivial⟩
def T : Nat → Option TI := lkT [(3, ti3), (4, ti4), (9, ti9), (5, ti5), (22, Zdt), (24, Zdu), (26, Zdv), (29, Zdw), (31, Zdx), (33, Zdy), (35, Zdz), (36, Zd0), (41, Zd1), (53, Zd2), (55, Zd3), (56, Zd4), (73, Zd5), (114, Zcn), (115, Zco), (138, Zcp), (146, Zcq), (150, Zcr), (166, Zcs), (185, Zct), (193, Zcu), (220, Zcv), (225, Zcw), (226, Zcx)]
theorem hT : TOk Tryz.prog T := Za2 (by
 intro p hp
 simp only [List.mem_cons, List.not_mem_nil, or_false] at hp
 rcases hp with rfl | rfl | rfl | rfl | rfl | rfl | rfl | rfl | rfl | rfl | rfl | rfl | rfl | rfl | rfl | rfl | rfl | rfl | rfl | rfl | rfl | rfl | rfl | rfl | rfl | rfl | rfl | rfl
 ·
  exact Zcy
 ·
  exact Zcz
 ·
  exact Zc1
 ·
  exact Zc0
 ·
  exact Zbk
 ·
  exact Zbl
 ·
  exact Zbm
 ·
  exact Zbn
 ·
  exact Zbo
 ·
  exact Zbp
 ·
  exact Zbq
 ·
  exact Zbr
 ·
  exact Zbs
 ·
  exact Zbt
 ·
  exact Zbu
 ·
  exact Zbv
 ·
  exact Zbw
 ·
  exact Yzq
 ·
  exact Yzr
 ·
  exact Yzs
 ·
  exact Yzt
 ·
  exact Yzu
 ·
  exact Yzv
 ·
  exact Yzw
 ·
  exact Yzx
 ·
  exact Yzy
 ·
  exact Yzz
 ·
  exact Yz0)
theorem hm : Tryz.prog.follows .mixedOrders = true := by kernel_rfl
theorem Zdj (d : Nat) (w : World) (x0 y0 : Int) (x1 y1 : Bool) (x2 y2 : Bool) (x3 y3 : Bool) : (Op.equalIn (d + 2) 31 (.agg #[.int .i64 x0, .bool x1, .bool x2, .bool x3]) (.agg #[.int .i64 y0, .bool y1, .bool y2, .bool y3])).run Tryz.prog w = .ok ((x0 == y0) && ((x1 == y1) && ((x2 == y2) && (x3 == y3)))) w := by
 refine Zab Tryz.underlying31 (by kernel_rfl) ?_
 refine Xzb (by rfl) (by go_simp; rfl) (by go_simp; rfl) (by go_simp) ?_
 refine Xzb (by rfl) (by go_simp; rfl) (by go_simp; rfl) (by go_simp) ?_
 refine Xzb (by rfl) (by go_simp; rfl) (by go_simp; rfl) (by go_simp) ?_
 exact Yte (by rfl) (by go_simp; rfl) (by go_simp; rfl) (by go_simp)
theorem Zac {x0 y0 : Int} {x1 y1 : Bool} {x2 y2 : Bool} {x3 y3 : Bool} : EqT Tryz.prog 31 [.int .i64 x0, .bool x1, .bool x2, .bool x3] [.int .i64 y0, .bool y1, .bool y2, .bool y3] ((x0 == y0) && ((x1 == y1) && ((x2 == y2) && (x3 == y3)))) := ⟨by kernel_rfl, rfl, rfl, fun w => Zdj 9998 w _ _ _ _ _ _ _ _⟩
theorem Zdk (d : Nat) (w : World) (x0 y0 : Int) (x1 y1 : Int) (x2 y2 : ByteArray) : (Op.equalIn (d + 2) 33 (.agg #[.int .i64 x0, .int .i64 x1, .string x2]) (.agg #[.int .i64 y0, .int .i64 y1, .string y2])).run Tryz.prog w = .ok ((x0 == y0) && ((x1 == y1) && (x2.toList == y2.toList))) w := by
 refine Zab Tryz.underlying33 (by kernel_rfl) ?_
 refine Xzb (by rfl) (by go_simp; rfl) (by go_simp; rfl) (by go_simp) ?_
 refine Xzb (by rfl) (by go_simp; rfl) (by go_simp; rfl) (by go_simp) ?_
 exact Yte (by rfl) (by go_simp; rfl) (by go_simp; rfl) (by go_simp)
theorem Ydj {x0 y0 : Int} {x1 y1 : Int} {x2 y2 : ByteArray} : EqT Tryz.prog 33 [.int .i64 x0, .int .i64 x1, .str x2] [.int .i64 y0, .int .i64 y1, .str y2] ((x0 == y0) && ((x1 == y1) && (x2.toList == y2.toList))) := ⟨by kernel_rfl, rfl, rfl, fun w => Zdk 9998 w _ _ _ _ _ _⟩
end Go.Proofs.YtnhflbeahbcklaaGreat.A
