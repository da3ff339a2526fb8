/- The types of the program, as the abstract logic reads them. Written by a program of this session. Conditions: none. -/
import Derived.Test.YtlebkepfhdjnmadGreatDFnPackets
import Derived.Test.YtlebkepfhdjnmadGreatRows
import Derived.KernelRfl
namespace Go.Proofs.YtlebkepfhdjnmadGreat.A
open Go Go.Proofs Go.Proofs.YtlebkepfhdjnmadGreatAL Go.RowKit
set_option linter.unusedVariables false
set_option linter.unusedSimpArgs false
def Xl1 (x : ByteArray) : List SV := [.str x]
def Xtn : List SV → Option ByteArray
 | [x0] => (match gS x0 with | some a0 => some a0 | _ => none)
 | _ => none
abbrev Xau : Xp1 := ⟨ByteArray, Xou, 1, Xl1, Xtn⟩
theorem Yeq : Xau.ok := by
 refine ⟨fun _ => rfl, by decide, fun cs x h => ?_⟩
 change Xtn cs = some x at h
 unfold Xtn at h
 split at h
 ·
  split at h
  ·
   cases h
   refine ⟨rfl, fun j y hy => ?_⟩
   change (Xl1 _)[j]? = some y at hy
   rcases j with _ | _
   ·
    cases hy; exact ⟨_, rfl, Ypa (by assumption)⟩
   ·
    simp [Xl1] at hy
  ·
   cases h
 ·
  cases h
theorem Yb1 : Xu1 [.str ⟨#[]⟩] (Xau.enc Xau.d) := by
 intro j y hy
 change (Xl1 _)[j]? = some y at hy
 rcases j with _ | _
 ·
  cases hy; exact ⟨_, rfl, fun _ _ _ h => h⟩
 ·
  simp [Xl1] at hy
theorem Xbs (l : List ByteArray) : (l.filterMap fun y => Xau.dec (Xau.enc y)) = l := by
 rw [show (fun y => Xau.dec (Xau.enc y)) = some from funext fun y => rfl]; exact List.filterMap_some
def Xyp (x : Xay) : List SV := [.int .i64 x.Seq, .bool x.First, .bool x.Last, .str x.Bytes]
def Yif : List SV → Option Xay
 | [x0, x1, x2, x3] => (match gI .i64 x0, gB x1, gB x2, gS x3 with | some a0, some a1, some a2, some a3 => some ⟨a0, a1, a2, a3⟩ | _, _, _, _ => none)
 | _ => none
abbrev Xbp : Xp1 := ⟨Xay, Xa4, 4, Xyp, Yif⟩
theorem Ykb : Xbp.ok := by
 refine ⟨fun _ => rfl, by decide, fun cs x h => ?_⟩
 change Yif cs = some x at h
 unfold Yif at h
 split at h
 ·
  split at h
  ·
   cases h
   refine ⟨rfl, fun j y hy => ?_⟩
   change (Xyp _)[j]? = some y at hy
   rcases j with _ | _ | _ | _ | _
   ·
    cases hy; exact ⟨_, rfl, Ygh (by assumption)⟩
   ·
    cases hy; exact ⟨_, rfl, Yo8 (by assumption)⟩
   ·
    cases hy; exact ⟨_, rfl, Yo8 (by assumption)⟩
   ·
    cases hy; exact ⟨_, rfl, Ypa (by assumption)⟩
   ·
    simp [Xyp] at hy
  ·
   cases h
 ·
  cases h
theorem Yhv : Xu1 [.int .i64 0, .bool false, .bool false, .str ⟨#[]⟩] (Xbp.enc Xbp.d) := by
 intro j y hy
 change (Xyp _)[j]? = some y at hy
 rcases j with _ | _ | _ | _ | _
 ·
  cases hy; exact ⟨_, rfl, fun _ _ _ h => h⟩
 ·
  cases hy; exact ⟨_, rfl, fun _ _ _ h => h⟩
 ·
  cases hy; exact ⟨_, rfl, fun _ _ _ h => h⟩
 ·
  cases hy; exact ⟨_, rfl, fun _ _ _ h => h⟩
 ·
  simp [Xyp] at hy
theorem Xg4 (l : List Xay) : (l.filterMap fun y => Xbp.dec (Xbp.enc y)) = l := by
 rw [show (fun y => Xbp.dec (Xbp.enc y)) = some from funext fun y => rfl]; exact List.filterMap_some
def Xyq (x : Xba) : List SV := [.int .i64 x.Kind, .int .i64 x.Mode, .int .i64 x.Dx, .int .i64 x.Dy, .ints .i64 x.Levels]
def Yig : List SV → Option Xba
 | [x0, x1, x2, x3, x4] => (match gI .i64 x0, gI .i64 x1, gI .i64 x2, gI .i64 x3, gL .i64 x4 with | some a0, some a1, some a2, some a3, some a4 => some ⟨a0, a1, a2, a3, a4⟩ | _, _, _, _, _ => none)
 | _ => none
abbrev Xfs : Xp1 := ⟨Xba, Xp3, 5, Xyq, Yig⟩
theorem Ykc : Xfs.ok := by
 refine ⟨fun _ => rfl, by decide, fun cs x h => ?_⟩
 change Yig cs = some x at h
 unfold Yig at h
 split at h
 ·
  split at h
  ·
   cases h
   refine ⟨rfl, fun j y hy => ?_⟩
   change (Xyq _)[j]? = some y at hy
   rcases j with _ | _ | _ | _ | _ | _
   ·
    cases hy; exact ⟨_, rfl, Ygh (by assumption)⟩
   ·
    cases hy; exact ⟨_, rfl, Ygh (by assumption)⟩
   ·
    cases hy; exact ⟨_, rfl, Ygh (by assumption)⟩
   ·
    cases hy; exact ⟨_, rfl, Ygh (by assumption)⟩
   ·
    cases hy; exact ⟨_, rfl, Yo9 (by assumption)⟩
   ·
    simp [Xyq] at hy
  ·
   cases h
 ·
  cases h
theorem Yhw : Xu1 [.int .i64 0, .int .i64 0, .int .i64 0, .int .i64 0, .nil] (Xfs.enc Xfs.d) := by
 intro j y hy
 change (Xyq _)[j]? = some y at hy
 rcases j with _ | _ | _ | _ | _ | _
 ·
  cases hy; exact ⟨_, rfl, fun _ _ _ h => h⟩
 ·
  cases hy; exact ⟨_, rfl, fun _ _ _ h => h⟩
 ·
  cases hy; exact ⟨_, rfl, fun _ _ _ h => h⟩
 ·
  cases hy; exact ⟨_, rfl, fun _ _ _ h => h⟩
 ·
  cases hy; exact ⟨_, rfl, Yo9 (k := .i64) rfl⟩
 ·
  simp [Xyq] at hy
theorem Yd1 (l : List Xba) : (l.filterMap fun y => Xfs.dec (Xfs.enc y)) = l := by
 rw [show (fun y => Xfs.dec (Xfs.enc y)) = some from funext fun y => rfl]; exact List.filterMap_some
def ti3 : TI := ⟨.int .i64, 1, 8, [.int .i64 0], .ints .i64⟩
theorem Yrk : ti3.ok Tryz.prog 3 := ⟨Tryz.underlying3, ⟨Tryz.t3, _, Xcw Tryz.type3, rfl, rfl, rfl, rfl⟩, rfl, rfl, by decide, ⟨rfl, rfl⟩⟩
def ti4 : TI := ⟨.bool, 1, 1, [.bool false], .none⟩
theorem Yrl : ti4.ok Tryz.prog 4 := ⟨Tryz.underlying4, ⟨Tryz.t4, _, Xcw Tryz.type4, rfl, rfl, rfl, rfl⟩, rfl, rfl, by decide, trivial⟩
def ti5 : TI := ⟨.int .u8, 1, 1, [.int .u8 0], .ints .u8⟩
theorem Yrm : ti5.ok Tryz.prog 5 := ⟨Tryz.underlying5, ⟨Tryz.t5, _, Xcw Tryz.type5, rfl, rfl, rfl, rfl⟩, rfl, rfl, by decide, ⟨rfl, rfl⟩⟩
def ti9 : TI := ⟨.str, 1, 16, [.str ⟨#[]⟩], .row Xau⟩
theorem Yrn : ti9.ok Tryz.prog 9 := ⟨Tryz.underlying9, ⟨Tryz.t9, _, Xcw Tryz.type9, rfl, rfl, rfl, rfl⟩, rfl, rfl, by decide, ⟨Yeq, rfl, Yb1⟩⟩
def Ysb : TI := ⟨.struct [(0, 3, 1), (1, 3, 1), (2, 9, 1)], 3, 32, [.int .i64 0, .int .i64 0, .str ⟨#[]⟩], .none⟩
theorem Yqa : Ysb.ok Tryz.prog 32 := ⟨⟨_, Tryz.underlying32, rfl, fun w => by simp [Tryz.sizeOf3, Tryz.sizeOf9]⟩, ⟨Tryz.t32, _, Xcw Tryz.type32, rfl, rfl, rfl, rfl⟩, rfl, rfl, by decide, trivial⟩
def Ysc : TI := ⟨.struct [(0, 3, 1), (1, 4, 1), (2, 4, 1), (3, 4, 1)], 4, 16, [.int .i64 0, .bool false, .bool false, .bool false], .none⟩
theorem Yqb : Ysc.ok Tryz.prog 38 := ⟨⟨_, Tryz.underlying38, rfl, fun w => by simp [Tryz.sizeOf3, Tryz.sizeOf4]⟩, ⟨Tryz.t38, _, Xcw Tryz.type38, rfl, rfl, rfl, rfl⟩, rfl, rfl, by decide, trivial⟩
def Ysd : TI := ⟨.slice 3, 1, 24, [.nil], .none⟩
theorem Yqc : Ysd.ok Tryz.prog 44 := ⟨Tryz.underlying44, ⟨Tryz.t44, _, Xcw Tryz.type44, rfl, rfl, rfl, rfl⟩, rfl, rfl, by decide, trivial⟩
def Yse : TI := ⟨.struct [(0, 3, 1), (1, 3, 1), (2, 3, 1), (3, 3, 1), (4, 44, 1)], 5, 56, [.int .i64 0, .int .i64 0, .int .i64 0, .int .i64 0, .nil], .row Xfs⟩
theorem Yqd : Yse.ok Tryz.prog 48 := ⟨⟨_, Tryz.underlying48, rfl, fun w => by simp [Tryz.sizeOf3, Tryz.sizeOf44]⟩, ⟨Tryz.t48, _, Xcw Tryz.type48, rfl, rfl, rfl, rfl⟩, rfl, rfl, by decide, ⟨Ykc, rfl, Yhw⟩⟩
def Ysf : TI := ⟨.struct [(0, 4, 1), (1, 3, 1), (2, 4, 1), (3, 4, 1)], 4, 24, [.bool false, .int .i64 0, .bool false, .bool false], .none⟩
theorem Yqe : Ysf.ok Tryz.prog 52 := ⟨⟨_, Tryz.underlying52, rfl, fun w => by simp [Tryz.sizeOf3, Tryz.sizeOf4]⟩, ⟨Tryz.t52, _, Xcw Tryz.type52, rfl, rfl, rfl, rfl⟩, rfl, rfl, by decide, trivial⟩
def Ysg : TI := ⟨.slice 5, 1, 24, [.nil], .none⟩
theorem Yqf : Ysg.ok Tryz.prog 59 := ⟨Tryz.underlying59, ⟨Tryz.t59, _, Xcw Tryz.type59, rfl, rfl, rfl, rfl⟩, rfl, rfl, by decide, trivial⟩
def Ysh : TI := ⟨.slice 69, 1, 24, [.nil], .none⟩
theorem Yqg : Ysh.ok Tryz.prog 61 := ⟨Tryz.underlying61, ⟨Tryz.t61, _, Xcw Tryz.type61, rfl, rfl, rfl, rfl⟩, rfl, rfl, by decide, trivial⟩
def Ysi : TI := ⟨.struct [(0, 3, 1), (1, 4, 1), (2, 4, 1), (3, 9, 1)], 4, 32, [.int .i64 0, .bool false, .bool false, .str ⟨#[]⟩], .row Xbp⟩
theorem Yqh : Ysi.ok Tryz.prog 69 := ⟨⟨_, Tryz.underlying69, rfl, fun w => by simp [Tryz.sizeOf3, Tryz.sizeOf4, Tryz.sizeOf9]⟩, ⟨Tryz.t69, _, Xcw Tryz.type69, rfl, rfl, rfl, rfl⟩, rfl, rfl, by decide, ⟨Ykb, rfl, Yhv⟩⟩
def Ysj : TI := ⟨.slice 9, 1, 24, [.nil], .none⟩
theorem Yqi : Ysj.ok Tryz.prog 76 := ⟨Tryz.underlying76, ⟨Tryz.t76, _, Xcw Tryz.type76, rfl, rfl, rfl, rfl⟩, rfl, rfl, by decide, trivial⟩
def Ysk : TI := ⟨.slice 48, 1, 24, [.nil], .none⟩
theorem Yqj : Ysk.ok Tryz.prog 88 := ⟨Tryz.underlying88, ⟨Tryz.t88, _, Xcw Tryz.type88, rfl, rfl, rfl, rfl⟩, rfl, rfl, by decide, trivial⟩
def Yrd : TI := ⟨.struct [(0, 44, 1), (1, 44, 1), (2, 3, 1)], 3, 56, [.nil, .nil, .int .i64 0], .none⟩
theorem Yor : Yrd.ok Tryz.prog 104 := ⟨⟨_, Tryz.underlying104, rfl, fun w => by simp [Tryz.sizeOf3, Tryz.sizeOf44]⟩, ⟨Tryz.t104, _, Xcw Tryz.type104, rfl, rfl, rfl, rfl⟩, rfl, rfl, by decide, trivial⟩
def Yre : TI := ⟨.int .u64, 1, 8, [.int .u64 0], .ints .u64⟩
theorem Yos : Yre.ok Tryz.prog 127 := ⟨Tryz.underlying127, ⟨Tryz.t127, _, Xcw Tryz.type127, rfl, rfl, rfl, rfl⟩, rfl, rfl, by decide, ⟨rfl, rfl⟩⟩
def Yrf : TI := ⟨.struct [(0, 3, 1), (1, 3, 1), (2, 44, 1), (3, 44, 1)], 4, 64, [.int .i64 0, .int .i64 0, .nil, .nil], .none⟩
theorem Yot : Yrf.ok Tryz.prog 152 := ⟨⟨_, Tryz.underlying152, rfl, fun w => by simp [Tryz.sizeOf3, Tryz.sizeOf44]⟩, ⟨Tryz.t152, _, Xcw Tryz.type152, rfl, rfl, rfl, rfl⟩, rfl, rfl, by decide, trivial⟩
def Yrg : TI := ⟨.struct [(0, 3, 1), (1, 3, 1), (2, 3, 1)], 3, 24, [.int .i64 0, .int .i64 0, .int .i64 0], .none⟩
theorem You : Yrg.ok Tryz.prog 154 := ⟨⟨_, Tryz.underlying154, rfl, fun w => by simp [Tryz.sizeOf3]⟩, ⟨Tryz.t154, _, Xcw Tryz.type154, rfl, rfl, rfl, rfl⟩, rfl, rfl, by decide, trivial⟩
def Yrh : TI := ⟨.struct [(0, 152, 4), (4, 38, 4), (8, 154, 3), (11, 3, 1), (12, 3, 1), (13, 3, 1), (14, 3, 1), (15, 4, 1), (16, 32, 3)], 19, 176, [.int .i64 0, .int .i64 0, .nil, .nil, .int .i64 0, .bool false, .bool false, .bool false, .int .i64 0, .int .i64 0, .int .i64 0, .int .i64 0, .int .i64 0, .int .i64 0, .int .i64 0, .bool false, .int .i64 0, .int .i64 0, .str ⟨#[]⟩], .none⟩
theorem Yov : Yrh.ok Tryz.prog 156 := ⟨⟨_, Tryz.underlying156, rfl, fun w => by simp [Tryz.sizeOf152, Tryz.sizeOf154, Tryz.sizeOf3, Tryz.sizeOf32, Tryz.sizeOf38, Tryz.sizeOf4]⟩, ⟨Tryz.t156, _, Xcw Tryz.type156, rfl, rfl, rfl, rfl⟩, rfl, rfl, by decide, trivial⟩
def Yri : TI := ⟨.struct [(0, 59, 1), (1, 3, 1), (2, 3, 1)], 3, 40, [.nil, .int .i64 0, .int .i64 0], .none⟩
theorem Yow : Yri.ok Tryz.prog 161 := ⟨⟨_, Tryz.underlying161, rfl, fun w => by simp [Tryz.sizeOf3, Tryz.sizeOf59]⟩, ⟨Tryz.t161, _, Xcw Tryz.type161, rfl, rfl, rfl, rfl⟩, rfl, rfl, by decide, trivial⟩
def Yrj : TI := ⟨.struct [(0, 3, 1), (1, 3, 1), (2, 3, 1)], 3, 24, [.int .i64 0, .int .i64 0, .int .i64 0], .none⟩
theorem Yox : Yrj.ok Tryz.prog 209 := ⟨⟨_, Tryz.underlying209, rfl, fun w => by simp [Tryz.sizeOf3]⟩, ⟨Tryz.t209, _, Xcw Tryz.type209, rfl, rfl, rfl, rfl⟩, rfl, rfl, by decide, trivial⟩
def T : Nat → Option TI := lkT [(3, ti3), (4, ti4), (9, ti9), (5, ti5), (32, Ysb), (38, Ysc), (44, Ysd), (48, Yse), (52, Ysf), (59, Ysg), (61, Ysh), (69, Ysi), (76, Ysj), (88, Ysk), (104, Yrd), (127, Yre), (152, Yrf), (154, Yrg), (156, Yrh), (161, Yri), (209, Yrj)]
theorem hT : TOk Tryz.prog T := Ypw (by
 intro p hp
 simp only [List.mem_cons, List.not_mem_nil, or_false] at hp
 rcases hp with rfl | rfl | rfl | rfl | rfl | rfl | rfl | rfl | rfl | rfl | rfl | rfl | rfl | rfl | rfl | rfl | rfl | rfl | rfl | rfl | rfl
 ·
  exact Yrk
 ·
  exact Yrl
 ·
  exact Yrn
 ·
  exact Yrm
 ·
  exact Yqa
 ·
  exact Yqb
 ·
  exact Yqc
 ·
  exact Yqd
 ·
  exact Yqe
 ·
  exact Yqf
 ·
  exact Yqg
 ·
  exact Yqh
 ·
  exact Yqi
 ·
  exact Yqj
 ·
  exact Yor
 ·
  exact Yos
 ·
  exact Yot
 ·
  exact You
 ·
  exact Yov
 ·
  exact Yow
 ·
  exact Yox)
theorem hm : Tryz.prog.follows .mixedOrders = true := by kernel_rfl
theorem Yr3 (d : Nat) (w : World) (x0 y0 : Int) (x1 y1 : Bool) (x2 y2 : Bool) (x3 y3 : ByteArray) : (Op.equalIn (d + 2) 69 (.agg #[.int .i64 x0, .bool x1, .bool x2, .string x3]) (.agg #[.int .i64 y0, .bool y1, .bool y2, .string y3])).run Tryz.prog w = .ok ((x0 == y0) && ((x1 == y1) && ((x2 == y2) && (x3.toList == y3.toList)))) w := by
 refine Yqy Tryz.underlying69 (by kernel_rfl) ?_
 refine Yet (by rfl) (by go_simp; rfl) (by go_simp; rfl) (by go_simp) ?_
 refine Yet (by rfl) (by go_simp; rfl) (by go_simp; rfl) (by go_simp) ?_
 refine Yet (by rfl) (by go_simp; rfl) (by go_simp; rfl) (by go_simp) ?_
 exact Ynv (by rfl) (by go_simp; rfl) (by go_simp; rfl) (by go_simp)
theorem Yo7 {x0 y0 : Int} {x1 y1 : Bool} {x2 y2 : Bool} {x3 y3 : ByteArray} : EqT Tryz.prog 69 [.int .i64 x0, .bool x1, .bool x2, .str x3] [.int .i64 y0, .bool y1, .bool y2, .str y3] ((x0 == y0) && ((x1 == y1) && ((x2 == y2) && (x3.toList == y3.toList)))) := ⟨by kernel_rfl, rfl, rfl, fun w => Yr3 9998 w _ _ _ _ _ _ _ _⟩
end Go.Proofs.YtlebkepfhdjnmadGreat.A
