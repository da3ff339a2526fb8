/- The types of the program, as the abstract logic reads them. Written by a program of this session. Conditions: none. -/
import Derived.Test.YtlebkepfhdjnmadGreatDFnInOrder
import Derived.Test.YtlebkepfhdjnmadGreatRows
import Derived.KernelRfl
namespace Go.Proofs.YtlebkepfhdjnmadGreat.A
open Go Go.Proofs Go.Proofs.YtlebkepfhdjnmadGreatAL Go.RowKit
set_option linter.unusedVariables false
set_option linter.unusedSimpArgs false
def Xme (x : ByteArray) : List SV := [.str x]
def Xtq : List SV → Option ByteArray
 | [x0] => (match gS x0 with | some a0 => some a0 | _ => none)
 | _ => none
abbrev Xa2 : Xpl := ⟨ByteArray, Xtb, 1, Xme, Xtq⟩
theorem Yef : Xa2.ok := by
 refine ⟨fun _ => rfl, by decide, fun cs x h => ?_⟩
 change Xtq cs = some x at h
 unfold Xtq at h
 split at h
 ·
  split at h
  ·
   cases h
   refine ⟨rfl, fun j y hy => ?_⟩
   change (Xme _)[j]? = some y at hy
   rcases j with _ | _
   ·
    cases hy; exact ⟨_, rfl, Yox (by assumption)⟩
   ·
    simp [Xme] at hy
  ·
   cases h
 ·
  cases h
theorem Yby : Xu3 [.str ⟨#[]⟩] (Xa2.enc Xa2.d) := by
 intro j y hy
 change (Xme _)[j]? = some y at hy
 rcases j with _ | _
 ·
  cases hy; exact ⟨_, rfl, fun _ _ _ h => h⟩
 ·
  simp [Xme] at hy
theorem Xfz (l : List ByteArray) : (l.filterMap fun y => Xa2.dec (Xa2.enc y)) = l := by
 rw [show (fun y => Xa2.dec (Xa2.enc y)) = some from funext fun y => rfl]; exact List.filterMap_some
def Xyw (x : Xal) : List SV := [.int .i64 x.Seq, .bool x.First, .bool x.Last, .str x.Bytes]
def Yh6 : List SV → Option Xal
 | [x0, x1, x2, x3] => (match gI .i64 x0, gB x1, gB x2, gS x3 with | some a0, some a1, some a2, some a3 => some ⟨a0, a1, a2, a3⟩ | _, _, _, _ => none)
 | _ => none
abbrev Xaz : Xpl := ⟨Xal, Xaw, 4, Xyw, Yh6⟩
theorem Ydr : Xaz.ok := by
 refine ⟨fun _ => rfl, by decide, fun cs x h => ?_⟩
 change Yh6 cs = some x at h
 unfold Yh6 at h
 split at h
 ·
  split at h
  ·
   cases h
   refine ⟨rfl, fun j y hy => ?_⟩
   change (Xyw _)[j]? = some y at hy
   rcases j with _ | _ | _ | _ | _
   ·
    cases hy; exact ⟨_, rfl, Yf5 (by assumption)⟩
   ·
    cases hy; exact ⟨_, rfl, Yov (by assumption)⟩
   ·
    cases hy; exact ⟨_, rfl, Yov (by assumption)⟩
   ·
    cases hy; exact ⟨_, rfl, Yox (by assumption)⟩
   ·
    simp [Xyw] at hy
  ·
   cases h
 ·
  cases h
theorem Yhk : Xu3 [.int .i64 0, .bool false, .bool false, .str ⟨#[]⟩] (Xaz.enc Xaz.d) := by
 intro j y hy
 change (Xyw _)[j]? = some y at hy
 rcases j with _ | _ | _ | _ | _
 ·
  cases hy; exact ⟨_, rfl, fun _ _ _ h => h⟩
 ·
  cases hy; exact ⟨_, rfl, fun _ _ _ h => h⟩
 ·
  cases hy; exact ⟨_, rfl, fun _ _ _ h => h⟩
 ·
  cases hy; exact ⟨_, rfl, fun _ _ _ h => h⟩
 ·
  simp [Xyw] at hy
theorem Xba (l : List Xal) : (l.filterMap fun y => Xaz.dec (Xaz.enc y)) = l := by
 rw [show (fun y => Xaz.dec (Xaz.enc y)) = some from funext fun y => rfl]; exact List.filterMap_some
def Xyx (x : Xbc) : List SV := [.int .i64 x.Kind, .int .i64 x.Mode, .int .i64 x.Dx, .int .i64 x.Dy, .ints .i64 x.Levels]
def Yh7 : List SV → Option Xbc
 | [x0, x1, x2, x3, x4] => (match gI .i64 x0, gI .i64 x1, gI .i64 x2, gI .i64 x3, gL .i64 x4 with | some a0, some a1, some a2, some a3, some a4 => some ⟨a0, a1, a2, a3, a4⟩ | _, _, _, _, _ => none)
 | _ => none
abbrev Xgb : Xpl := ⟨Xbc, Xqd, 5, Xyx, Yh7⟩
theorem Yj5 : Xgb.ok := by
 refine ⟨fun _ => rfl, by decide, fun cs x h => ?_⟩
 change Yh7 cs = some x at h
 unfold Yh7 at h
 split at h
 ·
  split at h
  ·
   cases h
   refine ⟨rfl, fun j y hy => ?_⟩
   change (Xyx _)[j]? = some y at hy
   rcases j with _ | _ | _ | _ | _ | _
   ·
    cases hy; exact ⟨_, rfl, Yf5 (by assumption)⟩
   ·
    cases hy; exact ⟨_, rfl, Yf5 (by assumption)⟩
   ·
    cases hy; exact ⟨_, rfl, Yf5 (by assumption)⟩
   ·
    cases hy; exact ⟨_, rfl, Yf5 (by assumption)⟩
   ·
    cases hy; exact ⟨_, rfl, Yow (by assumption)⟩
   ·
    simp [Xyx] at hy
  ·
   cases h
 ·
  cases h
theorem Yhl : Xu3 [.int .i64 0, .int .i64 0, .int .i64 0, .int .i64 0, .nil] (Xgb.enc Xgb.d) := by
 intro j y hy
 change (Xyx _)[j]? = some y at hy
 rcases j with _ | _ | _ | _ | _ | _
 ·
  cases hy; exact ⟨_, rfl, fun _ _ _ h => h⟩
 ·
  cases hy; exact ⟨_, rfl, fun _ _ _ h => h⟩
 ·
  cases hy; exact ⟨_, rfl, fun _ _ _ h => h⟩
 ·
  cases hy; exact ⟨_, rfl, fun _ _ _ h => h⟩
 ·
  cases hy; exact ⟨_, rfl, Yow (k := .i64) rfl⟩
 ·
  simp [Xyx] at hy
theorem Yds (l : List Xbc) : (l.filterMap fun y => Xgb.dec (Xgb.enc y)) = l := by
 rw [show (fun y => Xgb.dec (Xgb.enc y)) = some from funext fun y => rfl]; exact List.filterMap_some
def ti3 : TI := ⟨.int .i64, 1, 8, [.int .i64 0], .ints .i64⟩
theorem Yq8 : ti3.ok Tryz.prog 3 := ⟨Tryz.underlying3, ⟨Tryz.t3, _, Xcx Tryz.type3, rfl, rfl, rfl, rfl⟩, rfl, rfl, by decide, ⟨rfl, rfl⟩⟩
def ti4 : TI := ⟨.bool, 1, 1, [.bool false], .none⟩
theorem Yq9 : ti4.ok Tryz.prog 4 := ⟨Tryz.underlying4, ⟨Tryz.t4, _, Xcx Tryz.type4, rfl, rfl, rfl, rfl⟩, rfl, rfl, by decide, trivial⟩
def ti5 : TI := ⟨.int .u8, 1, 1, [.int .u8 0], .ints .u8⟩
theorem Yra : ti5.ok Tryz.prog 5 := ⟨Tryz.underlying5, ⟨Tryz.t5, _, Xcx Tryz.type5, rfl, rfl, rfl, rfl⟩, rfl, rfl, by decide, ⟨rfl, rfl⟩⟩
def ti9 : TI := ⟨.str, 1, 16, [.str ⟨#[]⟩], .row Xa2⟩
theorem Yrb : ti9.ok Tryz.prog 9 := ⟨Tryz.underlying9, ⟨Tryz.t9, _, Xcx Tryz.type9, rfl, rfl, rfl, rfl⟩, rfl, rfl, by decide, ⟨Yef, rfl, Yby⟩⟩
def Yr1 : TI := ⟨.struct [(0, 3, 1), (1, 3, 1), (2, 9, 1)], 3, 32, [.int .i64 0, .int .i64 0, .str ⟨#[]⟩], .none⟩
theorem Yp2 : Yr1.ok Tryz.prog 32 := ⟨⟨_, Tryz.underlying32, rfl, fun w => by simp [Tryz.sizeOf3, Tryz.sizeOf9]⟩, ⟨Tryz.t32, _, Xcx Tryz.type32, rfl, rfl, rfl, rfl⟩, rfl, rfl, by decide, trivial⟩
def Yr2 : TI := ⟨.struct [(0, 3, 1), (1, 4, 1), (2, 4, 1), (3, 4, 1)], 4, 16, [.int .i64 0, .bool false, .bool false, .bool false], .none⟩
theorem Yp3 : Yr2.ok Tryz.prog 38 := ⟨⟨_, Tryz.underlying38, rfl, fun w => by simp [Tryz.sizeOf3, Tryz.sizeOf4]⟩, ⟨Tryz.t38, _, Xcx Tryz.type38, rfl, rfl, rfl, rfl⟩, rfl, rfl, by decide, trivial⟩
def Yr3 : TI := ⟨.slice 3, 1, 24, [.nil], .none⟩
theorem Yp4 : Yr3.ok Tryz.prog 44 := ⟨Tryz.underlying44, ⟨Tryz.t44, _, Xcx Tryz.type44, rfl, rfl, rfl, rfl⟩, rfl, rfl, by decide, trivial⟩
def Yr4 : TI := ⟨.struct [(0, 3, 1), (1, 3, 1), (2, 3, 1), (3, 3, 1), (4, 44, 1)], 5, 56, [.int .i64 0, .int .i64 0, .int .i64 0, .int .i64 0, .nil], .row Xgb⟩
theorem Yp5 : Yr4.ok Tryz.prog 48 := ⟨⟨_, Tryz.underlying48, rfl, fun w => by simp [Tryz.sizeOf3, Tryz.sizeOf44]⟩, ⟨Tryz.t48, _, Xcx Tryz.type48, rfl, rfl, rfl, rfl⟩, rfl, rfl, by decide, ⟨Yj5, rfl, Yhl⟩⟩
def Yr5 : TI := ⟨.struct [(0, 4, 1), (1, 3, 1), (2, 4, 1), (3, 4, 1)], 4, 24, [.bool false, .int .i64 0, .bool false, .bool false], .none⟩
theorem Yp6 : Yr5.ok Tryz.prog 52 := ⟨⟨_, Tryz.underlying52, rfl, fun w => by simp [Tryz.sizeOf3, Tryz.sizeOf4]⟩, ⟨Tryz.t52, _, Xcx Tryz.type52, rfl, rfl, rfl, rfl⟩, rfl, rfl, by decide, trivial⟩
def Yr6 : TI := ⟨.slice 5, 1, 24, [.nil], .none⟩
theorem Yp7 : Yr6.ok Tryz.prog 59 := ⟨Tryz.underlying59, ⟨Tryz.t59, _, Xcx Tryz.type59, rfl, rfl, rfl, rfl⟩, rfl, rfl, by decide, trivial⟩
def Yr7 : TI := ⟨.slice 69, 1, 24, [.nil], .none⟩
theorem Yp8 : Yr7.ok Tryz.prog 61 := ⟨Tryz.underlying61, ⟨Tryz.t61, _, Xcx Tryz.type61, rfl, rfl, rfl, rfl⟩, rfl, rfl, by decide, trivial⟩
def Yr8 : TI := ⟨.struct [(0, 4, 1), (1, 3, 1), (2, 3, 1), (3, 61, 1), (4, 3, 1), (5, 3, 1), (6, 3, 1), (7, 3, 1), (8, 3, 1)], 9, 88, [.bool false, .int .i64 0, .int .i64 0, .nil, .int .i64 0, .int .i64 0, .int .i64 0, .int .i64 0, .int .i64 0], .none⟩
theorem Yp9 : Yr8.ok Tryz.prog 65 := ⟨⟨_, Tryz.underlying65, rfl, fun w => by simp [Tryz.sizeOf3, Tryz.sizeOf4, Tryz.sizeOf61]⟩, ⟨Tryz.t65, _, Xcx Tryz.type65, rfl, rfl, rfl, rfl⟩, rfl, rfl, by decide, trivial⟩
def Yr9 : TI := ⟨.struct [(0, 3, 1), (1, 4, 1), (2, 4, 1), (3, 9, 1)], 4, 32, [.int .i64 0, .bool false, .bool false, .str ⟨#[]⟩], .row Xaz⟩
theorem Yqa : Yr9.ok Tryz.prog 69 := ⟨⟨_, Tryz.underlying69, rfl, fun w => by simp [Tryz.sizeOf3, Tryz.sizeOf4, Tryz.sizeOf9]⟩, ⟨Tryz.t69, _, Xcx Tryz.type69, rfl, rfl, rfl, rfl⟩, rfl, rfl, by decide, ⟨Ydr, rfl, Yhk⟩⟩
def Ysa : TI := ⟨.slice 9, 1, 24, [.nil], .none⟩
theorem Yqb : Ysa.ok Tryz.prog 76 := ⟨Tryz.underlying76, ⟨Tryz.t76, _, Xcx Tryz.type76, rfl, rfl, rfl, rfl⟩, rfl, rfl, by decide, trivial⟩
def Ysb : TI := ⟨.slice 48, 1, 24, [.nil], .none⟩
theorem Yqc : Ysb.ok Tryz.prog 88 := ⟨Tryz.underlying88, ⟨Tryz.t88, _, Xcx Tryz.type88, rfl, rfl, rfl, rfl⟩, rfl, rfl, by decide, trivial⟩
def Yq1 : TI := ⟨.struct [(0, 44, 1), (1, 44, 1), (2, 3, 1)], 3, 56, [.nil, .nil, .int .i64 0], .none⟩
theorem Yog : Yq1.ok Tryz.prog 104 := ⟨⟨_, Tryz.underlying104, rfl, fun w => by simp [Tryz.sizeOf3, Tryz.sizeOf44]⟩, ⟨Tryz.t104, _, Xcx Tryz.type104, rfl, rfl, rfl, rfl⟩, rfl, rfl, by decide, trivial⟩
def Yq2 : TI := ⟨.int .u64, 1, 8, [.int .u64 0], .ints .u64⟩
theorem Yoh : Yq2.ok Tryz.prog 127 := ⟨Tryz.underlying127, ⟨Tryz.t127, _, Xcx Tryz.type127, rfl, rfl, rfl, rfl⟩, rfl, rfl, by decide, ⟨rfl, rfl⟩⟩
def Yq3 : TI := ⟨.struct [(0, 3, 1), (1, 3, 1), (2, 44, 1), (3, 44, 1)], 4, 64, [.int .i64 0, .int .i64 0, .nil, .nil], .none⟩
theorem Yoi : Yq3.ok Tryz.prog 152 := ⟨⟨_, Tryz.underlying152, rfl, fun w => by simp [Tryz.sizeOf3, Tryz.sizeOf44]⟩, ⟨Tryz.t152, _, Xcx Tryz.type152, rfl, rfl, rfl, rfl⟩, rfl, rfl, by decide, trivial⟩
def Yq4 : TI := ⟨.struct [(0, 3, 1), (1, 3, 1), (2, 3, 1)], 3, 24, [.int .i64 0, .int .i64 0, .int .i64 0], .none⟩
theorem Yoj : Yq4.ok Tryz.prog 154 := ⟨⟨_, Tryz.underlying154, rfl, fun w => by simp [Tryz.sizeOf3]⟩, ⟨Tryz.t154, _, Xcx Tryz.type154, rfl, rfl, rfl, rfl⟩, rfl, rfl, by decide, trivial⟩
def Yq5 : TI := ⟨.struct [(0, 152, 4), (4, 38, 4), (8, 154, 3), (11, 3, 1), (12, 3, 1), (13, 3, 1), (14, 3, 1), (15, 4, 1), (16, 32, 3)], 19, 176, [.int .i64 0, .int .i64 0, .nil, .nil, .int .i64 0, .bool false, .bool false, .bool false, .int .i64 0, .int .i64 0, .int .i64 0, .int .i64 0, .int .i64 0, .int .i64 0, .int .i64 0, .bool false, .int .i64 0, .int .i64 0, .str ⟨#[]⟩], .none⟩
theorem Yok : Yq5.ok Tryz.prog 156 := ⟨⟨_, Tryz.underlying156, rfl, fun w => by simp [Tryz.sizeOf152, Tryz.sizeOf154, Tryz.sizeOf3, Tryz.sizeOf32, Tryz.sizeOf38, Tryz.sizeOf4]⟩, ⟨Tryz.t156, _, Xcx Tryz.type156, rfl, rfl, rfl, rfl⟩, rfl, rfl, by decide, trivial⟩
def Yq6 : TI := ⟨.struct [(0, 59, 1), (1, 3, 1), (2, 3, 1)], 3, 40, [.nil, .int .i64 0, .int .i64 0], .none⟩
theorem Yol : Yq6.ok Tryz.prog 161 := ⟨⟨_, Tryz.underlying161, rfl, fun w => by simp [Tryz.sizeOf3, Tryz.sizeOf59]⟩, ⟨Tryz.t161, _, Xcx Tryz.type161, rfl, rfl, rfl, rfl⟩, rfl, rfl, by decide, trivial⟩
def Yq7 : TI := ⟨.struct [(0, 3, 1), (1, 3, 1), (2, 3, 1)], 3, 24, [.int .i64 0, .int .i64 0, .int .i64 0], .none⟩
theorem Yom : Yq7.ok Tryz.prog 209 := ⟨⟨_, Tryz.underlying209, rfl, fun w => by simp [Tryz.sizeOf3]⟩, ⟨Tryz.t209, _, Xcx Tryz.type209, rfl, rfl, rfl, rfl⟩, rfl, rfl, by decide, trivial⟩
def T : Nat → Option TI := lkT [(3, ti3), (4, ti4), (9, ti9), (5, ti5), (32, Yr1), (38, Yr2), (44, Yr3), (48, Yr4), (52, Yr5), (59, Yr6), (61, Yr7), (65, Yr8), (69, Yr9), (76, Ysa), (88, Ysb), (104, Yq1), (127, Yq2), (152, Yq3), (154, Yq4), (156, Yq5), (161, Yq6), (209, Yq7)]
theorem hT : TOk Tryz.prog T := Ypj (by
 intro p hp
 simp only [List.mem_cons, List.not_mem_nil, or_false] at hp
 rcases hp with rfl | rfl | rfl | rfl | rfl | rfl | rfl | rfl | rfl | rfl | rfl | rfl | rfl | rfl | rfl | rfl | rfl | rfl | rfl | rfl | rfl | rfl
 ·
  exact Yq8
 ·
  exact Yq9
 ·
  exact Yrb
 ·
  exact Yra
 ·
  exact Yp2
 ·
  exact Yp3
 ·
  exact Yp4
 ·
  exact Yp5
 ·
  exact Yp6
 ·
  exact Yp7
 ·
  exact Yp8
 ·
  exact Yp9
 ·
  exact Yqa
 ·
  exact Yqb
 ·
  exact Yqc
 ·
  exact Yog
 ·
  exact Yoh
 ·
  exact Yoi
 ·
  exact Yoj
 ·
  exact Yok
 ·
  exact Yol
 ·
  exact Yom)
theorem hm : Tryz.prog.follows .mixedOrders = true := by kernel_rfl
theorem Yrs (d : Nat) (w : World) (x0 y0 : Int) (x1 y1 : Bool) (x2 y2 : Bool) (x3 y3 : ByteArray) : (Op.equalIn (d + 2) 69 (.agg #[.int .i64 x0, .bool x1, .bool x2, .string x3]) (.agg #[.int .i64 y0, .bool y1, .bool y2, .string y3])).run Tryz.prog w = .ok ((x0 == y0) && ((x1 == y1) && ((x2 == y2) && (x3.toList == y3.toList)))) w := by
 refine Yqm Tryz.underlying69 (by kernel_rfl) ?_
 refine Yei (by rfl) (by go_simp; rfl) (by go_simp; rfl) (by go_simp) ?_
 refine Yei (by rfl) (by go_simp; rfl) (by go_simp; rfl) (by go_simp) ?_
 refine Yei (by rfl) (by go_simp; rfl) (by go_simp; rfl) (by go_simp) ?_
 exact Ynj (by rfl) (by go_simp; rfl) (by go_simp; rfl) (by go_simp)
theorem Yqn {x0 y0 : Int} {x1 y1 : Bool} {x2 y2 : Bool} {x3 y3 : ByteArray} : EqT Tryz.prog 69 [.int .i64 x0, .bool x1, .bool x2, .str x3] [.int .i64 y0, .bool y1, .bool y2, .str y3] ((x0 == y0) && ((x1 == y1) && ((x2 == y2) && (x3.toList == y3.toList)))) := ⟨by kernel_rfl, rfl, rfl, fun w => Yrs 9998 w _ _ _ _ _ _ _ _⟩
end Go.Proofs.YtlebkepfhdjnmadGreat.A
