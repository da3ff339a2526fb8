/- The types of the program, as the abstract logic reads them. Written by a program of this session. Conditions: none. -/
import Derived.Test.YtlebkepfhdjnmacDFnSquareFor
import Derived.Test.YtlebkepfhdjnmacRows
import Derived.KernelRfl
namespace Go.Proofs.Ytlebkepfhdjnmac.A
open Go Go.Proofs Go.Proofs.YtlebkepfhdjnmacAL Go.RowKit
set_option linter.unusedVariables false
set_option linter.unusedSimpArgs false
def Xpu (x : (List Int)) : List SV := [.ints .i64 x]
def Xzp : List SV → Option (List Int)
 | [x0] => (match gL .i64 x0 with | some a0 => some a0 | _ => none)
 | _ => none
abbrev Xki : Xq7 := ⟨(List Int), Xt7, 1, Xpu, Xzp⟩
theorem Ybz : Xki.ok := by
 refine ⟨fun _ => rfl, by decide, fun cs x h => ?_⟩
 change Xzp cs = some x at h
 unfold Xzp at h
 split at h
 ·
  split at h
  ·
   cases h
   refine ⟨rfl, fun j y hy => ?_⟩
   change (Xpu _)[j]? = some y at hy
   rcases j with _ | _
   ·
    cases hy; exact ⟨_, rfl, Yh2 (by assumption)⟩
   ·
    simp [Xpu] at hy
  ·
   cases h
 ·
  cases h
theorem Yad : Xxy [.nil] (Xki.enc Xki.d) := by
 intro j y hy
 change (Xpu _)[j]? = some y at hy
 rcases j with _ | _
 ·
  cases hy; exact ⟨_, rfl, Yh2 (k := .i64) rfl⟩
 ·
  simp [Xpu] at hy
theorem Yif (l : List (List Int)) : (l.filterMap fun y => Xki.dec (Xki.enc y)) = l := by
 rw [show (fun y => Xki.dec (Xki.enc y)) = some from funext fun y => rfl]; exact List.filterMap_some
def ti3 : TI := ⟨.int .i64, 1, 8, [.int .i64 0], .ints .i64⟩
theorem Yjt : ti3.ok Try.prog 3 := ⟨Try.underlying3, ⟨Try.t3, _, Xes Try.type3, rfl, rfl, rfl, rfl⟩, rfl, rfl, by decide, ⟨rfl, rfl⟩⟩
def ti4 : TI := ⟨.bool, 1, 1, [.bool false], .none⟩
theorem Yju : ti4.ok Try.prog 4 := ⟨Try.underlying4, ⟨Try.t4, _, Xes Try.type4, rfl, rfl, rfl, rfl⟩, rfl, rfl, by decide, trivial⟩
def ti5 : TI := ⟨.int .u8, 1, 1, [.int .u8 0], .ints .u8⟩
theorem Yjv : ti5.ok Try.prog 5 := ⟨Try.underlying5, ⟨Try.t5, _, Xes Try.type5, rfl, rfl, rfl, rfl⟩, rfl, rfl, by decide, ⟨rfl, rfl⟩⟩
def ti9 : TI := ⟨.str, 1, 16, [.str ⟨#[]⟩], .none⟩
theorem Yjw : ti9.ok Try.prog 9 := ⟨Try.underlying9, ⟨Try.t9, _, Xes Try.type9, rfl, rfl, rfl, rfl⟩, rfl, rfl, by decide, trivial⟩
def Yki : TI := ⟨.slice 5, 1, 24, [.nil], .none⟩
theorem Yi1 : Yki.ok Try.prog 22 := ⟨Try.underlying22, ⟨Try.t22, _, Xes Try.type22, rfl, rfl, rfl, rfl⟩, rfl, rfl, by decide, trivial⟩
def Ykj : TI := ⟨.struct [(0, 3, 1), (1, 3, 1), (2, 9, 1)], 3, 32, [.int .i64 0, .int .i64 0, .str ⟨#[]⟩], .none⟩
theorem Yi2 : Ykj.ok Try.prog 25 := ⟨⟨_, Try.underlying25, rfl, fun w => by simp [Try.sizeOf3, Try.sizeOf9]⟩, ⟨Try.t25, _, Xes Try.type25, rfl, rfl, rfl, rfl⟩, rfl, rfl, by decide, trivial⟩
def Ykk : TI := ⟨.struct [(0, 4, 1), (1, 3, 1), (2, 4, 1), (3, 4, 1)], 4, 24, [.bool false, .int .i64 0, .bool false, .bool false], .none⟩
theorem Yi3 : Ykk.ok Try.prog 29 := ⟨⟨_, Try.underlying29, rfl, fun w => by simp [Try.sizeOf3, Try.sizeOf4]⟩, ⟨Try.t29, _, Xes Try.type29, rfl, rfl, rfl, rfl⟩, rfl, rfl, by decide, trivial⟩
def Ykl : TI := ⟨.slice 3, 1, 24, [.nil], .row Xki⟩
theorem Yi4 : Ykl.ok Try.prog 31 := ⟨Try.underlying31, ⟨Try.t31, _, Xes Try.type31, rfl, rfl, rfl, rfl⟩, rfl, rfl, by decide, ⟨Ybz, rfl, Yad⟩⟩
def Ykm : TI := ⟨.struct [(0, 3, 1), (1, 3, 1), (2, 3, 1), (3, 3, 1), (4, 31, 1)], 5, 56, [.int .i64 0, .int .i64 0, .int .i64 0, .int .i64 0, .nil], .none⟩
theorem Yi5 : Ykm.ok Try.prog 35 := ⟨⟨_, Try.underlying35, rfl, fun w => by simp [Try.sizeOf3, Try.sizeOf31]⟩, ⟨Try.t35, _, Xes Try.type35, rfl, rfl, rfl, rfl⟩, rfl, rfl, by decide, trivial⟩
def Ykn : TI := ⟨.struct [(0, 3, 1), (1, 3, 1), (2, 3, 1), (3, 3, 1)], 4, 32, [.int .i64 0, .int .i64 0, .int .i64 0, .int .i64 0], .none⟩
theorem Yi6 : Ykn.ok Try.prog 47 := ⟨⟨_, Try.underlying47, rfl, fun w => by simp [Try.sizeOf3]⟩, ⟨Try.t47, _, Xes Try.type47, rfl, rfl, rfl, rfl⟩, rfl, rfl, by decide, trivial⟩
def Yko : TI := ⟨.struct [(0, 3, 1), (1, 4, 1), (2, 4, 1), (3, 4, 1)], 4, 16, [.int .i64 0, .bool false, .bool false, .bool false], .none⟩
theorem Yi7 : Yko.ok Try.prog 53 := ⟨⟨_, Try.underlying53, rfl, fun w => by simp [Try.sizeOf3, Try.sizeOf4]⟩, ⟨Try.t53, _, Xes Try.type53, rfl, rfl, rfl, rfl⟩, rfl, rfl, by decide, trivial⟩
def Yjn : TI := ⟨.struct [(0, 31, 1), (1, 31, 1), (2, 3, 1)], 3, 56, [.nil, .nil, .int .i64 0], .none⟩
theorem Yhl : Yjn.ok Try.prog 100 := ⟨⟨_, Try.underlying100, rfl, fun w => by simp [Try.sizeOf3, Try.sizeOf31]⟩, ⟨Try.t100, _, Xes Try.type100, rfl, rfl, rfl, rfl⟩, rfl, rfl, by decide, trivial⟩
def Yjo : TI := ⟨.struct [(0, 22, 1), (1, 3, 1), (2, 3, 1)], 3, 40, [.nil, .int .i64 0, .int .i64 0], .none⟩
theorem Yhm : Yjo.ok Try.prog 136 := ⟨⟨_, Try.underlying136, rfl, fun w => by simp [Try.sizeOf22, Try.sizeOf3]⟩, ⟨Try.t136, _, Xes Try.type136, rfl, rfl, rfl, rfl⟩, rfl, rfl, by decide, trivial⟩
def Yjp : TI := ⟨.slice 31, 1, 24, [.nil], .none⟩
theorem Yhn : Yjp.ok Try.prog 161 := ⟨Try.underlying161, ⟨Try.t161, _, Xes Try.type161, rfl, rfl, rfl, rfl⟩, rfl, rfl, by decide, trivial⟩
def Yjq : TI := ⟨.arr 4 3, 4, 32, [.int .i64 0, .int .i64 0, .int .i64 0, .int .i64 0], .none⟩
theorem Yho : Yjq.ok Try.prog 163 := ⟨Try.underlying163, ⟨Try.t163, _, Xes Try.type163, rfl, rfl, rfl, rfl⟩, rfl, rfl, by decide, trivial⟩
def Yjr : TI := ⟨.arr 3 3, 3, 24, [.int .i64 0, .int .i64 0, .int .i64 0], .none⟩
theorem Yhp : Yjr.ok Try.prog 173 := ⟨Try.underlying173, ⟨Try.t173, _, Xes Try.type173, rfl, rfl, rfl, rfl⟩, rfl, rfl, by decide, trivial⟩
def Yjs : TI := ⟨.arr 6 173, 18, 144, [.int .i64 0, .int .i64 0, .int .i64 0, .int .i64 0, .int .i64 0, .int .i64 0, .int .i64 0, .int .i64 0, .int .i64 0, .int .i64 0, .int .i64 0, .int .i64 0, .int .i64 0, .int .i64 0, .int .i64 0, .int .i64 0, .int .i64 0, .int .i64 0], .none⟩
theorem Yhq : Yjs.ok Try.prog 174 := ⟨Try.underlying174, ⟨Try.t174, _, Xes Try.type174, rfl, rfl, rfl, rfl⟩, rfl, rfl, by decide, trivial⟩
def T : Nat → Option TI := lkT [(3, ti3), (4, ti4), (9, ti9), (5, ti5), (22, Yki), (25, Ykj), (29, Ykk), (31, Ykl), (35, Ykm), (47, Ykn), (53, Yko), (100, Yjn), (136, Yjo), (161, Yjp), (163, Yjq), (173, Yjr), (174, Yjs)]
theorem hT : TOk Try.prog T := Yik (by
 intro p hp
 simp only [List.mem_cons, List.not_mem_nil, or_false] at hp
 rcases hp with rfl | rfl | rfl | rfl | rfl | rfl | rfl | rfl | rfl | rfl | rfl | rfl | rfl | rfl | rfl | rfl | rfl
 ·
  exact Yjt
 ·
  exact Yju
 ·
  exact Yjw
 ·
  exact Yjv
 ·
  exact Yi1
 ·
  exact Yi2
 ·
  exact Yi3
 ·
  exact Yi4
 ·
  exact Yi5
 ·
  exact Yi6
 ·
  exact Yi7
 ·
  exact Yhl
 ·
  exact Yhm
 ·
  exact Yhn
 ·
  exact Yho
 ·
  exact Yhp
 ·
  exact Yhq)
theorem hm : Try.prog.follows .mixedOrders = true := by kernel_rfl
end Go.Proofs.Ytlebkepfhdjnmac.A
