/- The types of the program, as the abstract logic reads them. Written by a program of this session. Conditions: none. -/
import Derived.Test.YtlebkepfhdjnmadGreatDFnExactSquareFor
import Derived.Test.YtlebkepfhdjnmadGreatRows
import Derived.KernelRfl
namespace Go.Proofs.YtlebkepfhdjnmadGreat.A
open Go Go.Proofs Go.Proofs.YtlebkepfhdjnmadGreatAL Go.RowKit
set_option linter.unusedVariables false
set_option linter.unusedSimpArgs false
def Xqy (x : (List Int)) : List SV := [.ints .i64 x]
def Ydi : List SV → Option (List Int)
 | [x0] => (match gL .i64 x0 with | some a0 => some a0 | _ => none)
 | _ => none
abbrev Xk9 : Xsz := ⟨(List Int), Xww, 1, Xqy, Ydi⟩
theorem Yf1 : Xk9.ok := by
 refine ⟨fun _ => rfl, by decide, fun cs x h => ?_⟩
 change Ydi cs = some x at h
 unfold Ydi at h
 split at h
 ·
  split at h
  ·
   cases h
   refine ⟨rfl, fun j y hy => ?_⟩
   change (Xqy _)[j]? = some y at hy
   rcases j with _ | _
   ·
    cases hy; exact ⟨_, rfl, Ylz (by assumption)⟩
   ·
    simp [Xqy] at hy
  ·
   cases h
 ·
  cases h
theorem Yef : Ybn [.nil] (Xk9.enc Xk9.d) := by
 intro j y hy
 change (Xqy _)[j]? = some y at hy
 rcases j with _ | _
 ·
  cases hy; exact ⟨_, rfl, Ylz (k := .i64) rfl⟩
 ·
  simp [Xqy] at hy
theorem Ymd (l : List (List Int)) : (l.filterMap fun y => Xk9.dec (Xk9.enc y)) = l := by
 rw [show (fun y => Xk9.dec (Xk9.enc y)) = some from funext fun y => rfl]; exact List.filterMap_some
def ti3 : TI := ⟨.int .i64, 1, 8, [.int .i64 0], .ints .i64⟩
theorem Ynq : ti3.ok Tryz.prog 3 := ⟨Tryz.underlying3, ⟨Tryz.t3, _, Xez Tryz.type3, rfl, rfl, rfl, rfl⟩, rfl, rfl, by decide, ⟨rfl, rfl⟩⟩
def ti4 : TI := ⟨.bool, 1, 1, [.bool false], .none⟩
theorem Ynr : ti4.ok Tryz.prog 4 := ⟨Tryz.underlying4, ⟨Tryz.t4, _, Xez Tryz.type4, rfl, rfl, rfl, rfl⟩, rfl, rfl, by decide, trivial⟩
def ti5 : TI := ⟨.int .u8, 1, 1, [.int .u8 0], .ints .u8⟩
theorem Yns : ti5.ok Tryz.prog 5 := ⟨Tryz.underlying5, ⟨Tryz.t5, _, Xez Tryz.type5, rfl, rfl, rfl, rfl⟩, rfl, rfl, by decide, ⟨rfl, rfl⟩⟩
def ti9 : TI := ⟨.str, 1, 16, [.str ⟨#[]⟩], .none⟩
theorem Ynt : ti9.ok Tryz.prog 9 := ⟨Tryz.underlying9, ⟨Tryz.t9, _, Xez Tryz.type9, rfl, rfl, rfl, rfl⟩, rfl, rfl, by decide, trivial⟩
def Yoe : TI := ⟨.struct [(0, 3, 1), (1, 3, 1), (2, 9, 1)], 3, 32, [.int .i64 0, .int .i64 0, .str ⟨#[]⟩], .none⟩
theorem Ymz : Yoe.ok Tryz.prog 23 := ⟨⟨_, Tryz.underlying23, rfl, fun w => by simp [Tryz.sizeOf3, Tryz.sizeOf9]⟩, ⟨Tryz.t23, _, Xez Tryz.type23, rfl, rfl, rfl, rfl⟩, rfl, rfl, by decide, trivial⟩
def Yof : TI := ⟨.struct [(0, 3, 1), (1, 3, 1), (2, 9, 1)], 3, 32, [.int .i64 0, .int .i64 0, .str ⟨#[]⟩], .none⟩
theorem Ym0 : Yof.ok Tryz.prog 32 := ⟨⟨_, Tryz.underlying32, rfl, fun w => by simp [Tryz.sizeOf3, Tryz.sizeOf9]⟩, ⟨Tryz.t32, _, Xez Tryz.type32, rfl, rfl, rfl, rfl⟩, rfl, rfl, by decide, trivial⟩
def Yog : TI := ⟨.struct [(0, 3, 1), (1, 3, 1), (2, 3, 1), (3, 3, 1)], 4, 32, [.int .i64 0, .int .i64 0, .int .i64 0, .int .i64 0], .none⟩
theorem Ym1 : Yog.ok Tryz.prog 36 := ⟨⟨_, Tryz.underlying36, rfl, fun w => by simp [Tryz.sizeOf3]⟩, ⟨Tryz.t36, _, Xez Tryz.type36, rfl, rfl, rfl, rfl⟩, rfl, rfl, by decide, trivial⟩
def Yoh : TI := ⟨.slice 3, 1, 24, [.nil], .row Xk9⟩
theorem Ym2 : Yoh.ok Tryz.prog 44 := ⟨Tryz.underlying44, ⟨Tryz.t44, _, Xez Tryz.type44, rfl, rfl, rfl, rfl⟩, rfl, rfl, by decide, ⟨Yf1, rfl, Yef⟩⟩
def Yoi : TI := ⟨.struct [(0, 4, 1), (1, 3, 1), (2, 4, 1), (3, 4, 1)], 4, 24, [.bool false, .int .i64 0, .bool false, .bool false], .none⟩
theorem Ym3 : Yoi.ok Tryz.prog 46 := ⟨⟨_, Tryz.underlying46, rfl, fun w => by simp [Tryz.sizeOf3, Tryz.sizeOf4]⟩, ⟨Tryz.t46, _, Xez Tryz.type46, rfl, rfl, rfl, rfl⟩, rfl, rfl, by decide, trivial⟩
def Yoj : TI := ⟨.struct [(0, 3, 1), (1, 3, 1), (2, 3, 1), (3, 3, 1), (4, 44, 1)], 5, 56, [.int .i64 0, .int .i64 0, .int .i64 0, .int .i64 0, .nil], .none⟩
theorem Ym4 : Yoj.ok Tryz.prog 48 := ⟨⟨_, Tryz.underlying48, rfl, fun w => by simp [Tryz.sizeOf3, Tryz.sizeOf44]⟩, ⟨Tryz.t48, _, Xez Tryz.type48, rfl, rfl, rfl, rfl⟩, rfl, rfl, by decide, trivial⟩
def Yok : TI := ⟨.struct [(0, 4, 1), (1, 3, 1), (2, 4, 1), (3, 4, 1)], 4, 24, [.bool false, .int .i64 0, .bool false, .bool false], .none⟩
theorem Ym5 : Yok.ok Tryz.prog 52 := ⟨⟨_, Tryz.underlying52, rfl, fun w => by simp [Tryz.sizeOf3, Tryz.sizeOf4]⟩, ⟨Tryz.t52, _, Xez Tryz.type52, rfl, rfl, rfl, rfl⟩, rfl, rfl, by decide, trivial⟩
def Yol : TI := ⟨.slice 5, 1, 24, [.nil], .none⟩
theorem Ym6 : Yol.ok Tryz.prog 59 := ⟨Tryz.underlying59, ⟨Tryz.t59, _, Xez Tryz.type59, rfl, rfl, rfl, rfl⟩, rfl, rfl, by decide, trivial⟩
def Ynk : TI := ⟨.struct [(0, 44, 1), (1, 44, 1), (2, 3, 1)], 3, 56, [.nil, .nil, .int .i64 0], .none⟩
theorem Ylj : Ynk.ok Tryz.prog 104 := ⟨⟨_, Tryz.underlying104, rfl, fun w => by simp [Tryz.sizeOf3, Tryz.sizeOf44]⟩, ⟨Tryz.t104, _, Xez Tryz.type104, rfl, rfl, rfl, rfl⟩, rfl, rfl, by decide, trivial⟩
def Ynl : TI := ⟨.int .u64, 1, 8, [.int .u64 0], .ints .u64⟩
theorem Ylk : Ynl.ok Tryz.prog 127 := ⟨Tryz.underlying127, ⟨Tryz.t127, _, Xez Tryz.type127, rfl, rfl, rfl, rfl⟩, rfl, rfl, by decide, ⟨rfl, rfl⟩⟩
def Ynm : TI := ⟨.slice 44, 1, 24, [.nil], .none⟩
theorem Yll : Ynm.ok Tryz.prog 177 := ⟨Tryz.underlying177, ⟨Tryz.t177, _, Xez Tryz.type177, rfl, rfl, rfl, rfl⟩, rfl, rfl, by decide, trivial⟩
def Ynn : TI := ⟨.arr 4 3, 4, 32, [.int .i64 0, .int .i64 0, .int .i64 0, .int .i64 0], .none⟩
theorem Ylm : Ynn.ok Tryz.prog 180 := ⟨Tryz.underlying180, ⟨Tryz.t180, _, Xez Tryz.type180, rfl, rfl, rfl, rfl⟩, rfl, rfl, by decide, trivial⟩
def Yno : TI := ⟨.arr 3 3, 3, 24, [.int .i64 0, .int .i64 0, .int .i64 0], .none⟩
theorem Yln : Yno.ok Tryz.prog 197 := ⟨Tryz.underlying197, ⟨Tryz.t197, _, Xez Tryz.type197, rfl, rfl, rfl, rfl⟩, rfl, rfl, by decide, trivial⟩
def Ynp : TI := ⟨.arr 6 197, 18, 144, [.int .i64 0, .int .i64 0, .int .i64 0, .int .i64 0, .int .i64 0, .int .i64 0, .int .i64 0, .int .i64 0, .int .i64 0, .int .i64 0, .int .i64 0, .int .i64 0, .int .i64 0, .int .i64 0, .int .i64 0, .int .i64 0, .int .i64 0, .int .i64 0], .none⟩
theorem Ylo : Ynp.ok Tryz.prog 198 := ⟨Tryz.underlying198, ⟨Tryz.t198, _, Xez Tryz.type198, rfl, rfl, rfl, rfl⟩, rfl, rfl, by decide, trivial⟩
def T : Nat → Option TI := lkT [(3, ti3), (4, ti4), (9, ti9), (5, ti5), (23, Yoe), (32, Yof), (36, Yog), (44, Yoh), (46, Yoi), (48, Yoj), (52, Yok), (59, Yol), (104, Ynk), (127, Ynl), (177, Ynm), (180, Ynn), (197, Yno), (198, Ynp)]
theorem hT : TOk Tryz.prog T := Ymj (by
 intro p hp
 simp only [List.mem_cons, List.not_mem_nil, or_false] at hp
 rcases hp with rfl | rfl | rfl | rfl | rfl | rfl | rfl | rfl | rfl | rfl | rfl | rfl | rfl | rfl | rfl | rfl | rfl | rfl
 ·
  exact Ynq
 ·
  exact Ynr
 ·
  exact Ynt
 ·
  exact Yns
 ·
  exact Ymz
 ·
  exact Ym0
 ·
  exact Ym1
 ·
  exact Ym2
 ·
  exact Ym3
 ·
  exact Ym4
 ·
  exact Ym5
 ·
  exact Ym6
 ·
  exact Ylj
 ·
  exact Ylk
 ·
  exact Yll
 ·
  exact Ylm
 ·
  exact Yln
 ·
  exact Ylo)
theorem hm : Tryz.prog.follows .mixedOrders = true := by kernel_rfl
end Go.Proofs.YtlebkepfhdjnmadGreat.A
