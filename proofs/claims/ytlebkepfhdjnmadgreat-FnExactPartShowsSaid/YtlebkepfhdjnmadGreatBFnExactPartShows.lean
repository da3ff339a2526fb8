/- The types of the program, as the abstract logic reads them. Written by a program of this session. Conditions: none. -/
import Derived.Test.YtlebkepfhdjnmadGreatDFnExactPartShows
import Derived.Test.YtlebkepfhdjnmadGreatRows
import Derived.KernelRfl
namespace Go.Proofs.YtlebkepfhdjnmadGreat.A
open Go Go.Proofs Go.Proofs.YtlebkepfhdjnmadGreatAL Go.RowKit
set_option linter.unusedVariables false
set_option linter.unusedSimpArgs false
def Xoo (x : (List Int)) : List SV := [.ints .i64 x]
def Yam : List SV → Option (List Int)
 | [x0] => (match gL .i64 x0 with | some a0 => some a0 | _ => none)
 | _ => none
abbrev Xjk : Xok := ⟨(List Int), Xtj, 1, Xoo, Yam⟩
theorem Ydi : Xjk.ok := by
 refine ⟨fun _ => rfl, by decide, fun cs x h => ?_⟩
 change Yam cs = some x at h
 unfold Yam at h
 split at h
 ·
  split at h
  ·
   cases h
   refine ⟨rfl, fun j y hy => ?_⟩
   change (Xoo _)[j]? = some y at hy
   rcases j with _ | _
   ·
    cases hy; exact ⟨_, rfl, Yek (by assumption)⟩
   ·
    simp [Xoo] at hy
  ·
   cases h
 ·
  cases h
theorem Ybp : Xto [.nil] (Xjk.enc Xjk.d) := by
 intro j y hy
 change (Xoo _)[j]? = some y at hy
 rcases j with _ | _
 ·
  cases hy; exact ⟨_, rfl, Yek (k := .i64) rfl⟩
 ·
  simp [Xoo] at hy
theorem Yjz (l : List (List Int)) : (l.filterMap fun y => Xjk.dec (Xjk.enc y)) = l := by
 rw [show (fun y => Xjk.dec (Xjk.enc y)) = some from funext fun y => rfl]; exact List.filterMap_some
def Xt3 (x : Xao) : List SV := [.int .i64 x.Kind, .int .i64 x.Mode, .int .i64 x.Dx, .int .i64 x.Dy, .ints .i64 x.Levels]
def Yd0 : List SV → Option Xao
 | [x0, x1, x2, x3, x4] => (match gI .i64 x0, gI .i64 x1, gI .i64 x2, gI .i64 x3, gL .i64 x4 with | some a0, some a1, some a2, some a3, some a4 => some ⟨a0, a1, a2, a3, a4⟩ | _, _, _, _, _ => none)
 | _ => none
abbrev Xcj : Xok := ⟨Xao, Xbc, 5, Xt3, Yd0⟩
theorem Yfg : Xcj.ok := by
 refine ⟨fun _ => rfl, by decide, fun cs x h => ?_⟩
 change Yd0 cs = some x at h
 unfold Yd0 at h
 split at h
 ·
  split at h
  ·
   cases h
   refine ⟨rfl, fun j y hy => ?_⟩
   change (Xt3 _)[j]? = some y at hy
   rcases j with _ | _ | _ | _ | _ | _
   ·
    cases hy; exact ⟨_, rfl, Yej (by assumption)⟩
   ·
    cases hy; exact ⟨_, rfl, Yej (by assumption)⟩
   ·
    cases hy; exact ⟨_, rfl, Yej (by assumption)⟩
   ·
    cases hy; exact ⟨_, rfl, Yej (by assumption)⟩
   ·
    cases hy; exact ⟨_, rfl, Yek (by assumption)⟩
   ·
    simp [Xt3] at hy
  ·
   cases h
 ·
  cases h
theorem Ydj : Xto [.int .i64 0, .int .i64 0, .int .i64 0, .int .i64 0, .nil] (Xcj.enc Xcj.d) := by
 intro j y hy
 change (Xt3 _)[j]? = some y at hy
 rcases j with _ | _ | _ | _ | _ | _
 ·
  cases hy; exact ⟨_, rfl, fun _ _ _ h => h⟩
 ·
  cases hy; exact ⟨_, rfl, fun _ _ _ h => h⟩
 ·
  cases hy; exact ⟨_, rfl, fun _ _ _ h => h⟩
 ·
  cases hy; exact ⟨_, rfl, fun _ _ _ h => h⟩
 ·
  cases hy; exact ⟨_, rfl, Yek (k := .i64) rfl⟩
 ·
  simp [Xt3] at hy
theorem Xmt (l : List Xao) : (l.filterMap fun y => Xcj.dec (Xcj.enc y)) = l := by
 rw [show (fun y => Xcj.dec (Xcj.enc y)) = some from funext fun y => rfl]; exact List.filterMap_some
def ti3 : TI := ⟨.int .i64, 1, 8, [.int .i64 0], .ints .i64⟩
theorem Ylt : ti3.ok Tryz.prog 3 := ⟨Tryz.underlying3, ⟨Tryz.t3, _, Xco Tryz.type3, rfl, rfl, rfl, rfl⟩, rfl, rfl, by decide, ⟨rfl, rfl⟩⟩
def ti4 : TI := ⟨.bool, 1, 1, [.bool false], .none⟩
theorem Ylu : ti4.ok Tryz.prog 4 := ⟨Tryz.underlying4, ⟨Tryz.t4, _, Xco Tryz.type4, rfl, rfl, rfl, rfl⟩, rfl, rfl, by decide, trivial⟩
def ti5 : TI := ⟨.int .u8, 1, 1, [.int .u8 0], .ints .u8⟩
theorem Ylv : ti5.ok Tryz.prog 5 := ⟨Tryz.underlying5, ⟨Tryz.t5, _, Xco Tryz.type5, rfl, rfl, rfl, rfl⟩, rfl, rfl, by decide, ⟨rfl, rfl⟩⟩
def ti9 : TI := ⟨.str, 1, 16, [.str ⟨#[]⟩], .none⟩
theorem Ylw : ti9.ok Tryz.prog 9 := ⟨Tryz.underlying9, ⟨Tryz.t9, _, Xco Tryz.type9, rfl, rfl, rfl, rfl⟩, rfl, rfl, by decide, trivial⟩
def Ymh : TI := ⟨.struct [(0, 3, 1), (1, 3, 1), (2, 9, 1)], 3, 32, [.int .i64 0, .int .i64 0, .str ⟨#[]⟩], .none⟩
theorem Ykk : Ymh.ok Tryz.prog 23 := ⟨⟨_, Tryz.underlying23, rfl, fun w => by simp [Tryz.sizeOf3, Tryz.sizeOf9]⟩, ⟨Tryz.t23, _, Xco Tryz.type23, rfl, rfl, rfl, rfl⟩, rfl, rfl, by decide, trivial⟩
def Ymi : TI := ⟨.struct [(0, 3, 1), (1, 3, 1), (2, 3, 1), (3, 3, 1)], 4, 32, [.int .i64 0, .int .i64 0, .int .i64 0, .int .i64 0], .none⟩
theorem Ykl : Ymi.ok Tryz.prog 25 := ⟨⟨_, Tryz.underlying25, rfl, fun w => by simp [Tryz.sizeOf3]⟩, ⟨Tryz.t25, _, Xco Tryz.type25, rfl, rfl, rfl, rfl⟩, rfl, rfl, by decide, trivial⟩
def Ymj : TI := ⟨.struct [(0, 3, 1), (1, 4, 1), (2, 4, 1), (3, 4, 1)], 4, 16, [.int .i64 0, .bool false, .bool false, .bool false], .none⟩
theorem Ykm : Ymj.ok Tryz.prog 27 := ⟨⟨_, Tryz.underlying27, rfl, fun w => by simp [Tryz.sizeOf3, Tryz.sizeOf4]⟩, ⟨Tryz.t27, _, Xco Tryz.type27, rfl, rfl, rfl, rfl⟩, rfl, rfl, by decide, trivial⟩
def Ymk : TI := ⟨.struct [(0, 4, 1), (1, 3, 1), (2, 9, 1)], 3, 32, [.bool false, .int .i64 0, .str ⟨#[]⟩], .none⟩
theorem Ykn : Ymk.ok Tryz.prog 29 := ⟨⟨_, Tryz.underlying29, rfl, fun w => by simp [Tryz.sizeOf3, Tryz.sizeOf4, Tryz.sizeOf9]⟩, ⟨Tryz.t29, _, Xco Tryz.type29, rfl, rfl, rfl, rfl⟩, rfl, rfl, by decide, trivial⟩
def Yml : TI := ⟨.struct [(0, 3, 1), (1, 3, 1), (2, 9, 1)], 3, 32, [.int .i64 0, .int .i64 0, .str ⟨#[]⟩], .none⟩
theorem Yko : Yml.ok Tryz.prog 32 := ⟨⟨_, Tryz.underlying32, rfl, fun w => by simp [Tryz.sizeOf3, Tryz.sizeOf9]⟩, ⟨Tryz.t32, _, Xco Tryz.type32, rfl, rfl, rfl, rfl⟩, rfl, rfl, by decide, trivial⟩
def Ymm : TI := ⟨.struct [(0, 3, 1), (1, 3, 1), (2, 3, 1), (3, 3, 1)], 4, 32, [.int .i64 0, .int .i64 0, .int .i64 0, .int .i64 0], .none⟩
theorem Ykp : Ymm.ok Tryz.prog 36 := ⟨⟨_, Tryz.underlying36, rfl, fun w => by simp [Tryz.sizeOf3]⟩, ⟨Tryz.t36, _, Xco Tryz.type36, rfl, rfl, rfl, rfl⟩, rfl, rfl, by decide, trivial⟩
def Ymn : TI := ⟨.struct [(0, 3, 1), (1, 4, 1), (2, 4, 1), (3, 4, 1)], 4, 16, [.int .i64 0, .bool false, .bool false, .bool false], .none⟩
theorem Ykq : Ymn.ok Tryz.prog 38 := ⟨⟨_, Tryz.underlying38, rfl, fun w => by simp [Tryz.sizeOf3, Tryz.sizeOf4]⟩, ⟨Tryz.t38, _, Xco Tryz.type38, rfl, rfl, rfl, rfl⟩, rfl, rfl, by decide, trivial⟩
def Ymo : TI := ⟨.struct [(0, 4, 1), (1, 3, 1), (2, 9, 1)], 3, 32, [.bool false, .int .i64 0, .str ⟨#[]⟩], .none⟩
theorem Ykr : Ymo.ok Tryz.prog 40 := ⟨⟨_, Tryz.underlying40, rfl, fun w => by simp [Tryz.sizeOf3, Tryz.sizeOf4, Tryz.sizeOf9]⟩, ⟨Tryz.t40, _, Xco Tryz.type40, rfl, rfl, rfl, rfl⟩, rfl, rfl, by decide, trivial⟩
def Ymp : TI := ⟨.slice 3, 1, 24, [.nil], .row Xjk⟩
theorem Yks : Ymp.ok Tryz.prog 44 := ⟨Tryz.underlying44, ⟨Tryz.t44, _, Xco Tryz.type44, rfl, rfl, rfl, rfl⟩, rfl, rfl, by decide, ⟨Ydi, rfl, Ybp⟩⟩
def Ymq : TI := ⟨.struct [(0, 3, 1), (1, 3, 1), (2, 3, 1), (3, 3, 1), (4, 44, 1)], 5, 56, [.int .i64 0, .int .i64 0, .int .i64 0, .int .i64 0, .nil], .row Xcj⟩
theorem Ykt : Ymq.ok Tryz.prog 48 := ⟨⟨_, Tryz.underlying48, rfl, fun w => by simp [Tryz.sizeOf3, Tryz.sizeOf44]⟩, ⟨Tryz.t48, _, Xco Tryz.type48, rfl, rfl, rfl, rfl⟩, rfl, rfl, by decide, ⟨Yfg, rfl, Ydj⟩⟩
def Ymr : TI := ⟨.struct [(0, 4, 1), (1, 3, 1), (2, 4, 1), (3, 4, 1)], 4, 24, [.bool false, .int .i64 0, .bool false, .bool false], .none⟩
theorem Yku : Ymr.ok Tryz.prog 52 := ⟨⟨_, Tryz.underlying52, rfl, fun w => by simp [Tryz.sizeOf3, Tryz.sizeOf4]⟩, ⟨Tryz.t52, _, Xco Tryz.type52, rfl, rfl, rfl, rfl⟩, rfl, rfl, by decide, trivial⟩
def Yms : TI := ⟨.slice 5, 1, 24, [.nil], .none⟩
theorem Ykv : Yms.ok Tryz.prog 59 := ⟨Tryz.underlying59, ⟨Tryz.t59, _, Xco Tryz.type59, rfl, rfl, rfl, rfl⟩, rfl, rfl, by decide, trivial⟩
def Ymt : TI := ⟨.slice 48, 1, 24, [.nil], .none⟩
theorem Ykw : Ymt.ok Tryz.prog 88 := ⟨Tryz.underlying88, ⟨Tryz.t88, _, Xco Tryz.type88, rfl, rfl, rfl, rfl⟩, rfl, rfl, by decide, trivial⟩
def Ylm : TI := ⟨.struct [(0, 44, 1), (1, 44, 1), (2, 3, 1)], 3, 56, [.nil, .nil, .int .i64 0], .none⟩
theorem Yi5 : Ylm.ok Tryz.prog 104 := ⟨⟨_, Tryz.underlying104, rfl, fun w => by simp [Tryz.sizeOf3, Tryz.sizeOf44]⟩, ⟨Tryz.t104, _, Xco Tryz.type104, rfl, rfl, rfl, rfl⟩, rfl, rfl, by decide, trivial⟩
def Yln : TI := ⟨.int .u64, 1, 8, [.int .u64 0], .ints .u64⟩
theorem Yi6 : Yln.ok Tryz.prog 127 := ⟨Tryz.underlying127, ⟨Tryz.t127, _, Xco Tryz.type127, rfl, rfl, rfl, rfl⟩, rfl, rfl, by decide, ⟨rfl, rfl⟩⟩
def Ylo : TI := ⟨.struct [(0, 9, 1), (1, 3, 1), (2, 4, 1)], 3, 32, [.str ⟨#[]⟩, .int .i64 0, .bool false], .none⟩
theorem Yi7 : Ylo.ok Tryz.prog 140 := ⟨⟨_, Tryz.underlying140, rfl, fun w => by simp [Tryz.sizeOf3, Tryz.sizeOf4, Tryz.sizeOf9]⟩, ⟨Tryz.t140, _, Xco Tryz.type140, rfl, rfl, rfl, rfl⟩, rfl, rfl, by decide, trivial⟩
def Ylp : TI := ⟨.slice 44, 1, 24, [.nil], .none⟩
theorem Yi8 : Ylp.ok Tryz.prog 177 := ⟨Tryz.underlying177, ⟨Tryz.t177, _, Xco Tryz.type177, rfl, rfl, rfl, rfl⟩, rfl, rfl, by decide, trivial⟩
def Ylq : TI := ⟨.arr 4 3, 4, 32, [.int .i64 0, .int .i64 0, .int .i64 0, .int .i64 0], .none⟩
theorem Yi9 : Ylq.ok Tryz.prog 180 := ⟨Tryz.underlying180, ⟨Tryz.t180, _, Xco Tryz.type180, rfl, rfl, rfl, rfl⟩, rfl, rfl, by decide, trivial⟩
def Ylr : TI := ⟨.arr 3 3, 3, 24, [.int .i64 0, .int .i64 0, .int .i64 0], .none⟩
theorem Yja : Ylr.ok Tryz.prog 197 := ⟨Tryz.underlying197, ⟨Tryz.t197, _, Xco Tryz.type197, rfl, rfl, rfl, rfl⟩, rfl, rfl, by decide, trivial⟩
def Yls : TI := ⟨.arr 6 197, 18, 144, [.int .i64 0, .int .i64 0, .int .i64 0, .int .i64 0, .int .i64 0, .int .i64 0, .int .i64 0, .int .i64 0, .int .i64 0, .int .i64 0, .int .i64 0, .int .i64 0, .int .i64 0, .int .i64 0, .int .i64 0, .int .i64 0, .int .i64 0, .int .i64 0], .none⟩
theorem Yjb : Yls.ok Tryz.prog 198 := ⟨Tryz.underlying198, ⟨Tryz.t198, _, Xco Tryz.type198, rfl, rfl, rfl, rfl⟩, rfl, rfl, by decide, trivial⟩
def T : Nat → Option TI := lkT [(3, ti3), (4, ti4), (9, ti9), (5, ti5), (23, Ymh), (25, Ymi), (27, Ymj), (29, Ymk), (32, Yml), (36, Ymm), (38, Ymn), (40, Ymo), (44, Ymp), (48, Ymq), (52, Ymr), (59, Yms), (88, Ymt), (104, Ylm), (127, Yln), (140, Ylo), (177, Ylp), (180, Ylq), (197, Ylr), (198, Yls)]
theorem hT : TOk Tryz.prog T := Yj6 (by
 intro p hp
 simp only [List.mem_cons, List.not_mem_nil, or_false] at hp
 rcases hp with rfl | rfl | rfl | rfl | rfl | rfl | rfl | rfl | rfl | rfl | rfl | rfl | rfl | rfl | rfl | rfl | rfl | rfl | rfl | rfl | rfl | rfl | rfl | rfl
 ·
  exact Ylt
 ·
  exact Ylu
 ·
  exact Ylw
 ·
  exact Ylv
 ·
  exact Ykk
 ·
  exact Ykl
 ·
  exact Ykm
 ·
  exact Ykn
 ·
  exact Yko
 ·
  exact Ykp
 ·
  exact Ykq
 ·
  exact Ykr
 ·
  exact Yks
 ·
  exact Ykt
 ·
  exact Yku
 ·
  exact Ykv
 ·
  exact Ykw
 ·
  exact Yi5
 ·
  exact Yi6
 ·
  exact Yi7
 ·
  exact Yi8
 ·
  exact Yi9
 ·
  exact Yja
 ·
  exact Yjb)
theorem hm : Tryz.prog.follows .mixedOrders = true := by kernel_rfl
end Go.Proofs.YtlebkepfhdjnmadGreat.A
