/- The types of the program, as the abstract logic reads them. Written by a program of this session. Conditions: none. -/
import Derived.Test.YtjgbfopmjpkkhaaGreatDFnExactDecAll
import Derived.Test.YtjgbfopmjpkkhaaGreatRows
import Derived.KernelRfl
namespace Go.Proofs.YtjgbfopmjpkkhaaGreat.A
open Go Go.Proofs Go.Proofs.YtjgbfopmjpkkhaaGreatAL Go.RowKit
set_option linter.unusedVariables false
set_option linter.unusedSimpArgs false
def Xow (x : ByteArray) : List SV := [.str x]
def Xyz : List SV → Option ByteArray
 | [x0] => (match gS x0 with | some a0 => some a0 | _ => none)
 | _ => none
abbrev Xbh : Xsu := ⟨ByteArray, Xcn, 1, Xow, Xyz⟩
theorem Xvi : Xbh.ok := by
 refine ⟨fun _ => rfl, by decide, fun cs x h => ?_⟩
 change Xyz cs = some x at h
 unfold Xyz at h
 split at h
 ·
  split at h
  ·
   cases h
   refine ⟨rfl, fun j y hy => ?_⟩
   change (Xow _)[j]? = some y at hy
   rcases j with _ | _
   ·
    cases hy; exact ⟨_, rfl, Yww (by assumption)⟩
   ·
    simp [Xow] at hy
  ·
   cases h
 ·
  cases h
theorem Yhq : Xvb [.str ⟨#[]⟩] (Xbh.enc Xbh.d) := by
 intro j y hy
 change (Xow _)[j]? = some y at hy
 rcases j with _ | _
 ·
  cases hy; exact ⟨_, rfl, fun _ _ _ h => h⟩
 ·
  simp [Xow] at hy
theorem Yvb (l : List ByteArray) : (l.filterMap fun y => Xbh.dec (Xbh.enc y)) = l := by
 rw [show (fun y => Xbh.dec (Xbh.enc y)) = some from funext fun y => rfl]; exact List.filterMap_some
def Xvj (x : (List Int)) : List SV := [.ints .i64 x]
def Ymi : List SV → Option (List Int)
 | [x0] => (match gL .i64 x0 with | some a0 => some a0 | _ => none)
 | _ => none
abbrev Xn3 : Xsu := ⟨(List Int), Xlf, 1, Xvj, Ymi⟩
theorem Ypt : Xn3.ok := by
 refine ⟨fun _ => rfl, by decide, fun cs x h => ?_⟩
 change Ymi cs = some x at h
 unfold Ymi at h
 split at h
 ·
  split at h
  ·
   cases h
   refine ⟨rfl, fun j y hy => ?_⟩
   change (Xvj _)[j]? = some y at hy
   rcases j with _ | _
   ·
    cases hy; exact ⟨_, rfl, Yqy (by assumption)⟩
   ·
    simp [Xvj] at hy
  ·
   cases h
 ·
  cases h
theorem Yno : Xvb [.nil] (Xn3.enc Xn3.d) := by
 intro j y hy
 change (Xvj _)[j]? = some y at hy
 rcases j with _ | _
 ·
  cases hy; exact ⟨_, rfl, Yqy (k := .i64) rfl⟩
 ·
  simp [Xvj] at hy
theorem Yxc (l : List (List Int)) : (l.filterMap fun y => Xn3.dec (Xn3.enc y)) = l := by
 rw [show (fun y => Xn3.dec (Xn3.enc y)) = some from funext fun y => rfl]; exact List.filterMap_some
def Yyp (x : Pic) : List SV := [.int .i64 x.Wide, .int .i64 x.High, .str x.Dots]
def Yzy : List SV → Option Pic
 | [x0, x1, x2] => (match gI .i64 x0, gI .i64 x1, gS x2 with | some a0, some a1, some a2 => some ⟨a0, a1, a2⟩ | _, _, _ => none)
 | _ => none
abbrev Xxp : Xsu := ⟨Pic, Yph, 3, Yyp, Yzy⟩
theorem Ys9 : Xxp.ok := by
 refine ⟨fun _ => rfl, by decide, fun cs x h => ?_⟩
 change Yzy cs = some x at h
 unfold Yzy at h
 split at h
 ·
  split at h
  ·
   cases h
   refine ⟨rfl, fun j y hy => ?_⟩
   change (Yyp _)[j]? = some y at hy
   rcases j with _ | _ | _ | _
   ·
    cases hy; exact ⟨_, rfl, Ykd (by assumption)⟩
   ·
    cases hy; exact ⟨_, rfl, Ykd (by assumption)⟩
   ·
    cases hy; exact ⟨_, rfl, Yww (by assumption)⟩
   ·
    simp [Yyp] at hy
  ·
   cases h
 ·
  cases h
theorem Yqn : Xvb [.int .i64 0, .int .i64 0, .str ⟨#[]⟩] (Xxp.enc Xxp.d) := by
 intro j y hy
 change (Yyp _)[j]? = some y at hy
 rcases j with _ | _ | _ | _
 ·
  cases hy; exact ⟨_, rfl, fun _ _ _ h => h⟩
 ·
  cases hy; exact ⟨_, rfl, fun _ _ _ h => h⟩
 ·
  cases hy; exact ⟨_, rfl, fun _ _ _ h => h⟩
 ·
  simp [Yyp] at hy
theorem Ylc (l : List Pic) : (l.filterMap fun y => Xxp.dec (Xxp.enc y)) = l := by
 rw [show (fun y => Xxp.dec (Xxp.enc y)) = some from funext fun y => rfl]; exact List.filterMap_some
def Ydk (x : Xay) : List SV := [.int .i64 x.Kind, .int .i64 x.Mode, .int .i64 x.Dx, .int .i64 x.Dy, .ints .i64 x.Levels]
def Yp9 : List SV → Option Xay
 | [x0, x1, x2, x3, x4] => (match gI .i64 x0, gI .i64 x1, gI .i64 x2, gI .i64 x3, gL .i64 x4 with | some a0, some a1, some a2, some a3, some a4 => some ⟨a0, a1, a2, a3, a4⟩ | _, _, _, _, _ => none)
 | _ => none
abbrev Xdh : Xsu := ⟨Xay, Xbt, 5, Ydk, Yp9⟩
theorem Yr4 : Xdh.ok := by
 refine ⟨fun _ => rfl, by decide, fun cs x h => ?_⟩
 change Yp9 cs = some x at h
 unfold Yp9 at h
 split at h
 ·
  split at h
  ·
   cases h
   refine ⟨rfl, fun j y hy => ?_⟩
   change (Ydk _)[j]? = some y at hy
   rcases j with _ | _ | _ | _ | _ | _
   ·
    cases hy; exact ⟨_, rfl, Ykd (by assumption)⟩
   ·
    cases hy; exact ⟨_, rfl, Ykd (by assumption)⟩
   ·
    cases hy; exact ⟨_, rfl, Ykd (by assumption)⟩
   ·
    cases hy; exact ⟨_, rfl, Ykd (by assumption)⟩
   ·
    cases hy; exact ⟨_, rfl, Yqy (by assumption)⟩
   ·
    simp [Ydk] at hy
  ·
   cases h
 ·
  cases h
theorem Ypu : Xvb [.int .i64 0, .int .i64 0, .int .i64 0, .int .i64 0, .nil] (Xdh.enc Xdh.d) := by
 intro j y hy
 change (Ydk _)[j]? = some y at hy
 rcases j with _ | _ | _ | _ | _ | _
 ·
  cases hy; exact ⟨_, rfl, fun _ _ _ h => h⟩
 ·
  cases hy; exact ⟨_, rfl, fun _ _ _ h => h⟩
 ·
  cases hy; exact ⟨_, rfl, fun _ _ _ h => h⟩
 ·
  cases hy; exact ⟨_, rfl, fun _ _ _ h => h⟩
 ·
  cases hy; exact ⟨_, rfl, Yqy (k := .i64) rfl⟩
 ·
  simp [Ydk] at hy
theorem Xsg (l : List Xay) : (l.filterMap fun y => Xdh.dec (Xdh.enc y)) = l := by
 rw [show (fun y => Xdh.dec (Xdh.enc y)) = some from funext fun y => rfl]; exact List.filterMap_some
def ti3 : TI := ⟨.int .i64, 1, 8, [.int .i64 0], .ints .i64⟩
theorem Yze : ti3.ok Tryz.prog 3 := ⟨Tryz.underlying3, ⟨Tryz.t3, _, Xcv Tryz.type3, rfl, rfl, rfl, rfl⟩, rfl, rfl, by decide, ⟨rfl, rfl⟩⟩
def ti4 : TI := ⟨.bool, 1, 1, [.bool false], .none⟩
theorem Yzf : ti4.ok Tryz.prog 4 := ⟨Tryz.underlying4, ⟨Tryz.t4, _, Xcv Tryz.type4, rfl, rfl, rfl, rfl⟩, rfl, rfl, by decide, trivial⟩
def ti5 : TI := ⟨.int .u8, 1, 1, [.int .u8 0], .ints .u8⟩
theorem Yzg : ti5.ok Tryz.prog 5 := ⟨Tryz.underlying5, ⟨Tryz.t5, _, Xcv Tryz.type5, rfl, rfl, rfl, rfl⟩, rfl, rfl, by decide, ⟨rfl, rfl⟩⟩
def ti9 : TI := ⟨.str, 1, 16, [.str ⟨#[]⟩], .row Xbh⟩
theorem Yzh : ti9.ok Tryz.prog 9 := ⟨Tryz.underlying9, ⟨Tryz.t9, _, Xcv Tryz.type9, rfl, rfl, rfl, rfl⟩, rfl, rfl, by decide, ⟨Xvi, rfl, Yhq⟩⟩
def Yz6 : TI := ⟨.slice 3, 1, 24, [.nil], .row Xn3⟩
theorem Yx1 : Yz6.ok Tryz.prog 22 := ⟨Tryz.underlying22, ⟨Tryz.t22, _, Xcv Tryz.type22, rfl, rfl, rfl, rfl⟩, rfl, rfl, by decide, ⟨Ypt, rfl, Yno⟩⟩
def Yz7 : TI := ⟨.struct [(0, 3, 1), (1, 3, 1), (2, 22, 1), (3, 22, 1)], 4, 64, [.int .i64 0, .int .i64 0, .nil, .nil], .none⟩
theorem Yx2 : Yz7.ok Tryz.prog 24 := ⟨⟨_, Tryz.underlying24, rfl, fun w => by simp [Tryz.sizeOf22, Tryz.sizeOf3]⟩, ⟨Tryz.t24, _, Xcv Tryz.type24, rfl, rfl, rfl, rfl⟩, rfl, rfl, by decide, trivial⟩
def Yz8 : TI := ⟨.struct [(0, 3, 1), (1, 4, 1), (2, 4, 1), (3, 4, 1)], 4, 16, [.int .i64 0, .bool false, .bool false, .bool false], .none⟩
theorem Yx3 : Yz8.ok Tryz.prog 26 := ⟨⟨_, Tryz.underlying26, rfl, fun w => by simp [Tryz.sizeOf3, Tryz.sizeOf4]⟩, ⟨Tryz.t26, _, Xcv Tryz.type26, rfl, rfl, rfl, rfl⟩, rfl, rfl, by decide, trivial⟩
def Yz9 : TI := ⟨.struct [(0, 3, 1), (1, 3, 1), (2, 9, 1)], 3, 32, [.int .i64 0, .int .i64 0, .str ⟨#[]⟩], .row Xxp⟩
theorem Yx4 : Yz9.ok Tryz.prog 28 := ⟨⟨_, Tryz.underlying28, rfl, fun w => by simp [Tryz.sizeOf3, Tryz.sizeOf9]⟩, ⟨Tryz.t28, _, Xcv Tryz.type28, rfl, rfl, rfl, rfl⟩, rfl, rfl, by decide, ⟨Ys9, rfl, Yqn⟩⟩
def Zaa : TI := ⟨.struct [(0, 4, 1), (1, 4, 1), (2, 4, 1), (3, 24, 4), (7, 26, 4), (11, 3, 1), (12, 3, 1), (13, 28, 3), (16, 28, 3)], 19, 168, [.bool false, .bool false, .bool false, .int .i64 0, .int .i64 0, .nil, .nil, .int .i64 0, .bool false, .bool false, .bool false, .int .i64 0, .int .i64 0, .int .i64 0, .int .i64 0, .str ⟨#[]⟩, .int .i64 0, .int .i64 0, .str ⟨#[]⟩], .none⟩
theorem Yx5 : Zaa.ok Tryz.prog 30 := ⟨⟨_, Tryz.underlying30, rfl, fun w => by simp [Tryz.sizeOf24, Tryz.sizeOf26, Tryz.sizeOf28, Tryz.sizeOf3, Tryz.sizeOf4]⟩, ⟨Tryz.t30, _, Xcv Tryz.type30, rfl, rfl, rfl, rfl⟩, rfl, rfl, by decide, trivial⟩
def Zab : TI := ⟨.struct [(0, 3, 1), (1, 3, 1), (2, 22, 1), (3, 22, 1)], 4, 64, [.int .i64 0, .int .i64 0, .nil, .nil], .none⟩
theorem Yx6 : Zab.ok Tryz.prog 32 := ⟨⟨_, Tryz.underlying32, rfl, fun w => by simp [Tryz.sizeOf22, Tryz.sizeOf3]⟩, ⟨Tryz.t32, _, Xcv Tryz.type32, rfl, rfl, rfl, rfl⟩, rfl, rfl, by decide, trivial⟩
def Zac : TI := ⟨.struct [(0, 3, 1), (1, 4, 1), (2, 4, 1), (3, 4, 1)], 4, 16, [.int .i64 0, .bool false, .bool false, .bool false], .none⟩
theorem Yx7 : Zac.ok Tryz.prog 33 := ⟨⟨_, Tryz.underlying33, rfl, fun w => by simp [Tryz.sizeOf3, Tryz.sizeOf4]⟩, ⟨Tryz.t33, _, Xcv Tryz.type33, rfl, rfl, rfl, rfl⟩, rfl, rfl, by decide, trivial⟩
def Zad : TI := ⟨.struct [(0, 3, 1), (1, 3, 1), (2, 9, 1)], 3, 32, [.int .i64 0, .int .i64 0, .str ⟨#[]⟩], .row Xxp⟩
theorem Yx8 : Zad.ok Tryz.prog 34 := ⟨⟨_, Tryz.underlying34, rfl, fun w => by simp [Tryz.sizeOf3, Tryz.sizeOf9]⟩, ⟨Tryz.t34, _, Xcv Tryz.type34, rfl, rfl, rfl, rfl⟩, rfl, rfl, by decide, ⟨Ys9, rfl, Yqn⟩⟩
def Zae : TI := ⟨.struct [(0, 4, 1), (1, 4, 1), (2, 4, 1), (3, 32, 4), (7, 33, 4), (11, 3, 1), (12, 3, 1), (13, 34, 3), (16, 34, 3)], 19, 168, [.bool false, .bool false, .bool false, .int .i64 0, .int .i64 0, .nil, .nil, .int .i64 0, .bool false, .bool false, .bool false, .int .i64 0, .int .i64 0, .int .i64 0, .int .i64 0, .str ⟨#[]⟩, .int .i64 0, .int .i64 0, .str ⟨#[]⟩], .none⟩
theorem Yx9 : Zae.ok Tryz.prog 36 := ⟨⟨_, Tryz.underlying36, rfl, fun w => by simp [Tryz.sizeOf3, Tryz.sizeOf32, Tryz.sizeOf33, Tryz.sizeOf34, Tryz.sizeOf4]⟩, ⟨Tryz.t36, _, Xcv Tryz.type36, rfl, rfl, rfl, rfl⟩, rfl, rfl, by decide, trivial⟩
def Zaf : TI := ⟨.slice 34, 1, 24, [.nil], .none⟩
theorem Yya : Zaf.ok Tryz.prog 44 := ⟨Tryz.underlying44, ⟨Tryz.t44, _, Xcv Tryz.type44, rfl, rfl, rfl, rfl⟩, rfl, rfl, by decide, trivial⟩
def Zag : TI := ⟨.slice 9, 1, 24, [.nil], .none⟩
theorem Yyb : Zag.ok Tryz.prog 52 := ⟨Tryz.underlying52, ⟨Tryz.t52, _, Xcv Tryz.type52, rfl, rfl, rfl, rfl⟩, rfl, rfl, by decide, trivial⟩
def Zah : TI := ⟨.slice 5, 1, 24, [.nil], .none⟩
theorem Yyc : Zah.ok Tryz.prog 59 := ⟨Tryz.underlying59, ⟨Tryz.t59, _, Xcv Tryz.type59, rfl, rfl, rfl, rfl⟩, rfl, rfl, by decide, trivial⟩
def Yy2 : TI := ⟨.struct [(0, 9, 1), (1, 3, 1), (2, 4, 1)], 3, 32, [.str ⟨#[]⟩, .int .i64 0, .bool false], .none⟩
theorem Ywb : Yy2.ok Tryz.prog 107 := ⟨⟨_, Tryz.underlying107, rfl, fun w => by simp [Tryz.sizeOf3, Tryz.sizeOf4, Tryz.sizeOf9]⟩, ⟨Tryz.t107, _, Xcv Tryz.type107, rfl, rfl, rfl, rfl⟩, rfl, rfl, by decide, trivial⟩
def Yy3 : TI := ⟨.struct [(0, 3, 1), (1, 3, 1), (2, 3, 1)], 3, 24, [.int .i64 0, .int .i64 0, .int .i64 0], .none⟩
theorem Ywc : Yy3.ok Tryz.prog 109 := ⟨⟨_, Tryz.underlying109, rfl, fun w => by simp [Tryz.sizeOf3]⟩, ⟨Tryz.t109, _, Xcv Tryz.type109, rfl, rfl, rfl, rfl⟩, rfl, rfl, by decide, trivial⟩
def Yy4 : TI := ⟨.struct [(0, 4, 1), (1, 3, 1), (2, 4, 1), (3, 4, 1)], 4, 24, [.bool false, .int .i64 0, .bool false, .bool false], .none⟩
theorem Ywd : Yy4.ok Tryz.prog 113 := ⟨⟨_, Tryz.underlying113, rfl, fun w => by simp [Tryz.sizeOf3, Tryz.sizeOf4]⟩, ⟨Tryz.t113, _, Xcv Tryz.type113, rfl, rfl, rfl, rfl⟩, rfl, rfl, by decide, trivial⟩
def Yy5 : TI := ⟨.slice 141, 1, 24, [.nil], .none⟩
theorem Ywe : Yy5.ok Tryz.prog 114 := ⟨Tryz.underlying114, ⟨Tryz.t114, _, Xcv Tryz.type114, rfl, rfl, rfl, rfl⟩, rfl, rfl, by decide, trivial⟩
def Yy6 : TI := ⟨.struct [(0, 3, 1), (1, 3, 1), (2, 3, 1), (3, 3, 1)], 4, 32, [.int .i64 0, .int .i64 0, .int .i64 0, .int .i64 0], .none⟩
theorem Ywf : Yy6.ok Tryz.prog 118 := ⟨⟨_, Tryz.underlying118, rfl, fun w => by simp [Tryz.sizeOf3]⟩, ⟨Tryz.t118, _, Xcv Tryz.type118, rfl, rfl, rfl, rfl⟩, rfl, rfl, by decide, trivial⟩
def Yy7 : TI := ⟨.int .u64, 1, 8, [.int .u64 0], .ints .u64⟩
theorem Ywg : Yy7.ok Tryz.prog 130 := ⟨Tryz.underlying130, ⟨Tryz.t130, _, Xcv Tryz.type130, rfl, rfl, rfl, rfl⟩, rfl, rfl, by decide, ⟨rfl, rfl⟩⟩
def Yy8 : TI := ⟨.struct [(0, 3, 1), (1, 3, 1), (2, 3, 1), (3, 3, 1), (4, 22, 1)], 5, 56, [.int .i64 0, .int .i64 0, .int .i64 0, .int .i64 0, .nil], .row Xdh⟩
theorem Ywh : Yy8.ok Tryz.prog 141 := ⟨⟨_, Tryz.underlying141, rfl, fun w => by simp [Tryz.sizeOf22, Tryz.sizeOf3]⟩, ⟨Tryz.t141, _, Xcv Tryz.type141, rfl, rfl, rfl, rfl⟩, rfl, rfl, by decide, ⟨Yr4, rfl, Ypu⟩⟩
def Yy9 : TI := ⟨.slice 22, 1, 24, [.nil], .none⟩
theorem Ywi : Yy9.ok Tryz.prog 156 := ⟨Tryz.underlying156, ⟨Tryz.t156, _, Xcv Tryz.type156, rfl, rfl, rfl, rfl⟩, rfl, rfl, by decide, trivial⟩
def Yza : TI := ⟨.struct [(0, 22, 1), (1, 22, 1), (2, 3, 1)], 3, 56, [.nil, .nil, .int .i64 0], .none⟩
theorem Ywj : Yza.ok Tryz.prog 172 := ⟨⟨_, Tryz.underlying172, rfl, fun w => by simp [Tryz.sizeOf22, Tryz.sizeOf3]⟩, ⟨Tryz.t172, _, Xcv Tryz.type172, rfl, rfl, rfl, rfl⟩, rfl, rfl, by decide, trivial⟩
def Yzb : TI := ⟨.arr 4 3, 4, 32, [.int .i64 0, .int .i64 0, .int .i64 0, .int .i64 0], .none⟩
theorem Ywk : Yzb.ok Tryz.prog 198 := ⟨Tryz.underlying198, ⟨Tryz.t198, _, Xcv Tryz.type198, rfl, rfl, rfl, rfl⟩, rfl, rfl, by decide, trivial⟩
def Yzc : TI := ⟨.arr 3 3, 3, 24, [.int .i64 0, .int .i64 0, .int .i64 0], .none⟩
theorem Ywl : Yzc.ok Tryz.prog 202 := ⟨Tryz.underlying202, ⟨Tryz.t202, _, Xcv Tryz.type202, rfl, rfl, rfl, rfl⟩, rfl, rfl, by decide, trivial⟩
def Yzd : TI := ⟨.arr 6 202, 18, 144, [.int .i64 0, .int .i64 0, .int .i64 0, .int .i64 0, .int .i64 0, .int .i64 0, .int .i64 0, .int .i64 0, .int .i64 0, .int .i64 0, .int .i64 0, .int .i64 0, .int .i64 0, .int .i64 0, .int .i64 0, .int .i64 0, .int .i64 0, .int .i64 0], .none⟩
theorem Ywm : Yzd.ok Tryz.prog 203 := ⟨Tryz.underlying203, ⟨Tryz.t203, _, Xcv Tryz.type203, rfl, rfl, rfl, rfl⟩, rfl, rfl, by decide, trivial⟩
def T : Nat → Option TI := lkT [(3, ti3), (4, ti4), (9, ti9), (5, ti5), (22, Yz6), (24, Yz7), (26, Yz8), (28, Yz9), (30, Zaa), (32, Zab), (33, Zac), (34, Zad), (36, Zae), (44, Zaf), (52, Zag), (59, Zah), (107, Yy2), (109, Yy3), (113, Yy4), (114, Yy5), (118, Yy6), (130, Yy7), (141, Yy8), (156, Yy9), (172, Yza), (198, Yzb), (202, Yzc), (203, Yzd)]
theorem hT : TOk Tryz.prog T := Yxk (by
 intro p hp
 simp only [List.mem_cons, List.not_mem_nil, or_false] at hp
 rcases hp with rfl | rfl | rfl | rfl | rfl | rfl | rfl | rfl | rfl | rfl | rfl | rfl | rfl | rfl | rfl | rfl | rfl | rfl | rfl | rfl | rfl | rfl | rfl | rfl | rfl | rfl | rfl | rfl
 ·
  exact Yze
 ·
  exact Yzf
 ·
  exact Yzh
 ·
  exact Yzg
 ·
  exact Yx1
 ·
  exact Yx2
 ·
  exact Yx3
 ·
  exact Yx4
 ·
  exact Yx5
 ·
  exact Yx6
 ·
  exact Yx7
 ·
  exact Yx8
 ·
  exact Yx9
 ·
  exact Yya
 ·
  exact Yyb
 ·
  exact Yyc
 ·
  exact Ywb
 ·
  exact Ywc
 ·
  exact Ywd
 ·
  exact Ywe
 ·
  exact Ywf
 ·
  exact Ywg
 ·
  exact Ywh
 ·
  exact Ywi
 ·
  exact Ywj
 ·
  exact Ywk
 ·
  exact Ywl
 ·
  exact Ywm)
theorem hm : Tryz.prog.follows .mixedOrders = true := by kernel_rfl
theorem Yzs (d : Nat) (w : World) (x0 y0 : Int) (x1 y1 : Bool) (x2 y2 : Bool) (x3 y3 : Bool) : (Op.equalIn (d + 2) 33 (.agg #[.int .i64 x0, .bool x1, .bool x2, .bool x3]) (.agg #[.int .i64 y0, .bool y1, .bool y2, .bool y3])).run Tryz.prog w = .ok ((x0 == y0) && ((x1 == y1) && ((x2 == y2) && (x3 == y3)))) w := by
 refine Ywv Tryz.underlying33 (by kernel_rfl) ?_
 refine Xvk (by rfl) (by go_simp; rfl) (by go_simp; rfl) (by go_simp) ?_
 refine Xvk (by rfl) (by go_simp; rfl) (by go_simp; rfl) (by go_simp) ?_
 refine Xvk (by rfl) (by go_simp; rfl) (by go_simp; rfl) (by go_simp) ?_
 exact Yqu (by rfl) (by go_simp; rfl) (by go_simp; rfl) (by go_simp)
theorem Yqt {x0 y0 : Int} {x1 y1 : Bool} {x2 y2 : Bool} {x3 y3 : Bool} : EqT Tryz.prog 33 [.int .i64 x0, .bool x1, .bool x2, .bool x3] [.int .i64 y0, .bool y1, .bool y2, .bool y3] ((x0 == y0) && ((x1 == y1) && ((x2 == y2) && (x3 == y3)))) := ⟨by kernel_rfl, rfl, rfl, fun w => Yzs 9998 w _ _ _ _ _ _ _ _⟩
theorem Yzt (d : Nat) (w : World) (x0 y0 : Int) (x1 y1 : Int) (x2 y2 : ByteArray) : (Op.equalIn (d + 2) 34 (.agg #[.int .i64 x0, .int .i64 x1, .string x2]) (.agg #[.int .i64 y0, .int .i64 y1, .string y2])).run Tryz.prog w = .ok ((x0 == y0) && ((x1 == y1) && (x2.toList == y2.toList))) w := by
 refine Ywv Tryz.underlying34 (by kernel_rfl) ?_
 refine Xvk (by rfl) (by go_simp; rfl) (by go_simp; rfl) (by go_simp) ?_
 refine Xvk (by rfl) (by go_simp; rfl) (by go_simp; rfl) (by go_simp) ?_
 exact Yqu (by rfl) (by go_simp; rfl) (by go_simp; rfl) (by go_simp)
theorem Ynv {x0 y0 : Int} {x1 y1 : Int} {x2 y2 : ByteArray} : EqT Tryz.prog 34 [.int .i64 x0, .int .i64 x1, .str x2] [.int .i64 y0, .int .i64 y1, .str y2] ((x0 == y0) && ((x1 == y1) && (x2.toList == y2.toList))) := ⟨by kernel_rfl, rfl, rfl, fun w => Yzt 9998 w _ _ _ _ _ _⟩
end Go.Proofs.YtjgbfopmjpkkhaaGreat.A
