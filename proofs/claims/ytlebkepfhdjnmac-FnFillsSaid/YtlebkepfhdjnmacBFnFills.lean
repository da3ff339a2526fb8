/- The types of the program, as the abstract logic reads them. Written by a program of this session. Conditions: none. -/
import Derived.Test.YtlebkepfhdjnmacDFnFills
import Derived.Test.YtlebkepfhdjnmacRows
import Derived.KernelRfl
namespace Go.Proofs.Ytlebkepfhdjnmac.A
open Go Go.Proofs Go.Proofs.YtlebkepfhdjnmacAL Go.RowKit
set_option linter.unusedVariables false
set_option linter.unusedSimpArgs false
def Xpu (x : (List Int)) : List SV := [.ints .i64 x]
def Ybm : List SV → Option (List Int)
 | [x0] => (match gL .i64 x0 with | some a0 => some a0 | _ => none)
 | _ => none
abbrev Xke : Xpn := ⟨(List Int), Xu6, 1, Xpu, Ybm⟩
theorem Yd7 : Xke.ok := by
 refine ⟨fun _ => rfl, by decide, fun cs x h => ?_⟩
 change Ybm cs = some x at h
 unfold Ybm at h
 split at h
 ·
  split at h
  ·
   cases h
   refine ⟨rfl, fun j y hy => ?_⟩
   change (Xpu _)[j]? = some y at hy
   rcases j with _ | _
   ·
    cases hy; exact ⟨_, rfl, Yfj (by assumption)⟩
   ·
    simp [Xpu] at hy
  ·
   cases h
 ·
  cases h
theorem Yce : Xvf [.nil] (Xke.enc Xke.d) := by
 intro j y hy
 change (Xpu _)[j]? = some y at hy
 rcases j with _ | _
 ·
  cases hy; exact ⟨_, rfl, Yfj (k := .i64) rfl⟩
 ·
  simp [Xpu] at hy
theorem Ylh (l : List (List Int)) : (l.filterMap fun y => Xke.dec (Xke.enc y)) = l := by
 rw [show (fun y => Xke.dec (Xke.enc y)) = some from funext fun y => rfl]; exact List.filterMap_some
def Xvt (x : Xap) : List SV := [.int .i64 x.Kind, .int .i64 x.Mode, .int .i64 x.Dx, .int .i64 x.Dy, .ints .i64 x.Levels]
def Yes : List SV → Option Xap
 | [x0, x1, x2, x3, x4] => (match gI .i64 x0, gI .i64 x1, gI .i64 x2, gI .i64 x3, gL .i64 x4 with | some a0, some a1, some a2, some a3, some a4 => some ⟨a0, a1, a2, a3, a4⟩ | _, _, _, _, _ => none)
 | _ => none
abbrev Xb1 : Xpn := ⟨Xap, Xdd, 5, Xvt, Yes⟩
theorem Ygf : Xb1.ok := by
 refine ⟨fun _ => rfl, by decide, fun cs x h => ?_⟩
 change Yes cs = some x at h
 unfold Yes at h
 split at h
 ·
  split at h
  ·
   cases h
   refine ⟨rfl, fun j y hy => ?_⟩
   change (Xvt _)[j]? = some y at hy
   rcases j with _ | _ | _ | _ | _ | _
   ·
    cases hy; exact ⟨_, rfl, Yfi (by assumption)⟩
   ·
    cases hy; exact ⟨_, rfl, Yfi (by assumption)⟩
   ·
    cases hy; exact ⟨_, rfl, Yfi (by assumption)⟩
   ·
    cases hy; exact ⟨_, rfl, Yfi (by assumption)⟩
   ·
    cases hy; exact ⟨_, rfl, Yfj (by assumption)⟩
   ·
    simp [Xvt] at hy
  ·
   cases h
 ·
  cases h
theorem Yd8 : Xvf [.int .i64 0, .int .i64 0, .int .i64 0, .int .i64 0, .nil] (Xb1.enc Xb1.d) := by
 intro j y hy
 change (Xvt _)[j]? = some y at hy
 rcases j with _ | _ | _ | _ | _ | _
 ·
  cases hy; exact ⟨_, rfl, fun _ _ _ h => h⟩
 ·
  cases hy; exact ⟨_, rfl, fun _ _ _ h => h⟩
 ·
  cases hy; exact ⟨_, rfl, fun _ _ _ h => h⟩
 ·
  cases hy; exact ⟨_, rfl, fun _ _ _ h => h⟩
 ·
  cases hy; exact ⟨_, rfl, Yfj (k := .i64) rfl⟩
 ·
  simp [Xvt] at hy
theorem Xjl (l : List Xap) : (l.filterMap fun y => Xb1.dec (Xb1.enc y)) = l := by
 rw [show (fun y => Xb1.dec (Xb1.enc y)) = some from funext fun y => rfl]; exact List.filterMap_some
def ti3 : TI := ⟨.int .i64, 1, 8, [.int .i64 0], .ints .i64⟩
theorem Ym6 : ti3.ok Try.prog 3 := ⟨Try.underlying3, ⟨Try.t3, _, Xcx Try.type3, rfl, rfl, rfl, rfl⟩, rfl, rfl, by decide, ⟨rfl, rfl⟩⟩
def ti4 : TI := ⟨.bool, 1, 1, [.bool false], .none⟩
theorem Ym7 : ti4.ok Try.prog 4 := ⟨Try.underlying4, ⟨Try.t4, _, Xcx Try.type4, rfl, rfl, rfl, rfl⟩, rfl, rfl, by decide, trivial⟩
def ti5 : TI := ⟨.int .u8, 1, 1, [.int .u8 0], .ints .u8⟩
theorem Ym8 : ti5.ok Try.prog 5 := ⟨Try.underlying5, ⟨Try.t5, _, Xcx Try.type5, rfl, rfl, rfl, rfl⟩, rfl, rfl, by decide, ⟨rfl, rfl⟩⟩
def ti9 : TI := ⟨.str, 1, 16, [.str ⟨#[]⟩], .none⟩
theorem Ym9 : ti9.ok Try.prog 9 := ⟨Try.underlying9, ⟨Try.t9, _, Xcx Try.type9, rfl, rfl, rfl, rfl⟩, rfl, rfl, by decide, trivial⟩
def Yn1 : TI := ⟨.slice 5, 1, 24, [.nil], .none⟩
theorem Yl0 : Yn1.ok Try.prog 22 := ⟨Try.underlying22, ⟨Try.t22, _, Xcx Try.type22, rfl, rfl, rfl, rfl⟩, rfl, rfl, by decide, trivial⟩
def Yn2 : TI := ⟨.struct [(0, 3, 1), (1, 3, 1), (2, 9, 1)], 3, 32, [.int .i64 0, .int .i64 0, .str ⟨#[]⟩], .none⟩
theorem Yl1 : Yn2.ok Try.prog 25 := ⟨⟨_, Try.underlying25, rfl, fun w => by simp [Try.sizeOf3, Try.sizeOf9]⟩, ⟨Try.t25, _, Xcx Try.type25, rfl, rfl, rfl, rfl⟩, rfl, rfl, by decide, trivial⟩
def Yn3 : TI := ⟨.struct [(0, 4, 1), (1, 3, 1), (2, 4, 1), (3, 4, 1)], 4, 24, [.bool false, .int .i64 0, .bool false, .bool false], .none⟩
theorem Yl2 : Yn3.ok Try.prog 29 := ⟨⟨_, Try.underlying29, rfl, fun w => by simp [Try.sizeOf3, Try.sizeOf4]⟩, ⟨Try.t29, _, Xcx Try.type29, rfl, rfl, rfl, rfl⟩, rfl, rfl, by decide, trivial⟩
def Yn4 : TI := ⟨.slice 3, 1, 24, [.nil], .row Xke⟩
theorem Yl3 : Yn4.ok Try.prog 31 := ⟨Try.underlying31, ⟨Try.t31, _, Xcx Try.type31, rfl, rfl, rfl, rfl⟩, rfl, rfl, by decide, ⟨Yd7, rfl, Yce⟩⟩
def Yn5 : TI := ⟨.struct [(0, 3, 1), (1, 3, 1), (2, 3, 1), (3, 3, 1), (4, 31, 1)], 5, 56, [.int .i64 0, .int .i64 0, .int .i64 0, .int .i64 0, .nil], .row Xb1⟩
theorem Yl4 : Yn5.ok Try.prog 35 := ⟨⟨_, Try.underlying35, rfl, fun w => by simp [Try.sizeOf3, Try.sizeOf31]⟩, ⟨Try.t35, _, Xcx Try.type35, rfl, rfl, rfl, rfl⟩, rfl, rfl, by decide, ⟨Ygf, rfl, Yd8⟩⟩
def Yn6 : TI := ⟨.slice 35, 1, 24, [.nil], .none⟩
theorem Yl5 : Yn6.ok Try.prog 42 := ⟨Try.underlying42, ⟨Try.t42, _, Xcx Try.type42, rfl, rfl, rfl, rfl⟩, rfl, rfl, by decide, trivial⟩
def Yn7 : TI := ⟨.struct [(0, 3, 1), (1, 3, 1), (2, 3, 1), (3, 3, 1)], 4, 32, [.int .i64 0, .int .i64 0, .int .i64 0, .int .i64 0], .none⟩
theorem Yl6 : Yn7.ok Try.prog 47 := ⟨⟨_, Try.underlying47, rfl, fun w => by simp [Try.sizeOf3]⟩, ⟨Try.t47, _, Xcx Try.type47, rfl, rfl, rfl, rfl⟩, rfl, rfl, by decide, trivial⟩
def Yn8 : TI := ⟨.struct [(0, 3, 1), (1, 3, 1), (2, 31, 1), (3, 31, 1)], 4, 64, [.int .i64 0, .int .i64 0, .nil, .nil], .none⟩
theorem Yl7 : Yn8.ok Try.prog 51 := ⟨⟨_, Try.underlying51, rfl, fun w => by simp [Try.sizeOf3, Try.sizeOf31]⟩, ⟨Try.t51, _, Xcx Try.type51, rfl, rfl, rfl, rfl⟩, rfl, rfl, by decide, trivial⟩
def Yn9 : TI := ⟨.struct [(0, 3, 1), (1, 4, 1), (2, 4, 1), (3, 4, 1)], 4, 16, [.int .i64 0, .bool false, .bool false, .bool false], .none⟩
theorem Yl8 : Yn9.ok Try.prog 53 := ⟨⟨_, Try.underlying53, rfl, fun w => by simp [Try.sizeOf3, Try.sizeOf4]⟩, ⟨Try.t53, _, Xcx Try.type53, rfl, rfl, rfl, rfl⟩, rfl, rfl, by decide, trivial⟩
def Yoa : TI := ⟨.struct [(0, 3, 1), (1, 3, 1), (2, 3, 1)], 3, 24, [.int .i64 0, .int .i64 0, .int .i64 0], .none⟩
theorem Yl9 : Yoa.ok Try.prog 55 := ⟨⟨_, Try.underlying55, rfl, fun w => by simp [Try.sizeOf3]⟩, ⟨Try.t55, _, Xcx Try.type55, rfl, rfl, rfl, rfl⟩, rfl, rfl, by decide, trivial⟩
def Yob : TI := ⟨.struct [(0, 4, 1), (1, 3, 1), (2, 9, 1)], 3, 32, [.bool false, .int .i64 0, .str ⟨#[]⟩], .none⟩
theorem Yma : Yob.ok Try.prog 59 := ⟨⟨_, Try.underlying59, rfl, fun w => by simp [Try.sizeOf3, Try.sizeOf4, Try.sizeOf9]⟩, ⟨Try.t59, _, Xcx Try.type59, rfl, rfl, rfl, rfl⟩, rfl, rfl, by decide, trivial⟩
def Ymy : TI := ⟨.struct [(0, 31, 1), (1, 31, 1), (2, 3, 1)], 3, 56, [.nil, .nil, .int .i64 0], .none⟩
theorem Ykh : Ymy.ok Try.prog 100 := ⟨⟨_, Try.underlying100, rfl, fun w => by simp [Try.sizeOf3, Try.sizeOf31]⟩, ⟨Try.t100, _, Xcx Try.type100, rfl, rfl, rfl, rfl⟩, rfl, rfl, by decide, trivial⟩
def Ymz : TI := ⟨.struct [(0, 9, 1), (1, 3, 1), (2, 4, 1)], 3, 32, [.str ⟨#[]⟩, .int .i64 0, .bool false], .none⟩
theorem Yki : Ymz.ok Try.prog 128 := ⟨⟨_, Try.underlying128, rfl, fun w => by simp [Try.sizeOf3, Try.sizeOf4, Try.sizeOf9]⟩, ⟨Try.t128, _, Xcx Try.type128, rfl, rfl, rfl, rfl⟩, rfl, rfl, by decide, trivial⟩
def Ym0 : TI := ⟨.struct [(0, 22, 1), (1, 3, 1), (2, 3, 1)], 3, 40, [.nil, .int .i64 0, .int .i64 0], .none⟩
theorem Ykj : Ym0.ok Try.prog 136 := ⟨⟨_, Try.underlying136, rfl, fun w => by simp [Try.sizeOf22, Try.sizeOf3]⟩, ⟨Try.t136, _, Xcx Try.type136, rfl, rfl, rfl, rfl⟩, rfl, rfl, by decide, trivial⟩
def Ym1 : TI := ⟨.int .u64, 1, 8, [.int .u64 0], .ints .u64⟩
theorem Ykk : Ym1.ok Try.prog 139 := ⟨Try.underlying139, ⟨Try.t139, _, Xcx Try.type139, rfl, rfl, rfl, rfl⟩, rfl, rfl, by decide, ⟨rfl, rfl⟩⟩
def Ym2 : TI := ⟨.slice 31, 1, 24, [.nil], .none⟩
theorem Ykl : Ym2.ok Try.prog 161 := ⟨Try.underlying161, ⟨Try.t161, _, Xcx Try.type161, rfl, rfl, rfl, rfl⟩, rfl, rfl, by decide, trivial⟩
def Ym3 : TI := ⟨.arr 4 3, 4, 32, [.int .i64 0, .int .i64 0, .int .i64 0, .int .i64 0], .none⟩
theorem Ykm : Ym3.ok Try.prog 163 := ⟨Try.underlying163, ⟨Try.t163, _, Xcx Try.type163, rfl, rfl, rfl, rfl⟩, rfl, rfl, by decide, trivial⟩
def Ym4 : TI := ⟨.arr 3 3, 3, 24, [.int .i64 0, .int .i64 0, .int .i64 0], .none⟩
theorem Ykn : Ym4.ok Try.prog 173 := ⟨Try.underlying173, ⟨Try.t173, _, Xcx Try.type173, rfl, rfl, rfl, rfl⟩, rfl, rfl, by decide, trivial⟩
def Ym5 : TI := ⟨.arr 6 173, 18, 144, [.int .i64 0, .int .i64 0, .int .i64 0, .int .i64 0, .int .i64 0, .int .i64 0, .int .i64 0, .int .i64 0, .int .i64 0, .int .i64 0, .int .i64 0, .int .i64 0, .int .i64 0, .int .i64 0, .int .i64 0, .int .i64 0, .int .i64 0, .int .i64 0], .none⟩
theorem Yko : Ym5.ok Try.prog 174 := ⟨Try.underlying174, ⟨Try.t174, _, Xcx Try.type174, rfl, rfl, rfl, rfl⟩, rfl, rfl, by decide, trivial⟩
def T : Nat → Option TI := lkT [(3, ti3), (4, ti4), (9, ti9), (5, ti5), (22, Yn1), (25, Yn2), (29, Yn3), (31, Yn4), (35, Yn5), (42, Yn6), (47, Yn7), (51, Yn8), (53, Yn9), (55, Yoa), (59, Yob), (100, Ymy), (128, Ymz), (136, Ym0), (139, Ym1), (161, Ym2), (163, Ym3), (173, Ym4), (174, Ym5)]
theorem hT : TOk Try.prog T := Yln (by
 intro p hp
 simp only [List.mem_cons, List.not_mem_nil, or_false] at hp
 rcases hp with rfl | rfl | rfl | rfl | rfl | rfl | rfl | rfl | rfl | rfl | rfl | rfl | rfl | rfl | rfl | rfl | rfl | rfl | rfl | rfl | rfl | rfl | rfl
 ·
  exact Ym6
 ·
  exact Ym7
 ·
  exact Ym9
 ·
  exact Ym8
 ·
  exact Yl0
 ·
  exact Yl1
 ·
  exact Yl2
 ·
  exact Yl3
 ·
  exact Yl4
 ·
  exact Yl5
 ·
  exact Yl6
 ·
  exact Yl7
 ·
  exact Yl8
 ·
  exact Yl9
 ·
  exact Yma
 ·
  exact Ykh
 ·
  exact Yki
 ·
  exact Ykj
 ·
  exact Ykk
 ·
  exact Ykl
 ·
  exact Ykm
 ·
  exact Ykn
 ·
  exact Yko)
theorem hm : Try.prog.follows .mixedOrders = true := by kernel_rfl
theorem Ynp (d : Nat) (w : World) (x0 y0 : Int) (x1 y1 : Int) (x2 y2 : ByteArray) : (Op.equalIn (d + 2) 25 (.agg #[.int .i64 x0, .int .i64 x1, .string x2]) (.agg #[.int .i64 y0, .int .i64 y1, .string y2])).run Try.prog w = .ok ((x0 == y0) && ((x1 == y1) && (x2.toList == y2.toList))) w := by
 refine Ymo Try.underlying25 (by kernel_rfl) ?_
 refine Yfg (by rfl) (by go_simp; rfl) (by go_simp; rfl) (by go_simp) ?_
 refine Yfg (by rfl) (by go_simp; rfl) (by go_simp; rfl) (by go_simp) ?_
 exact Yjp (by rfl) (by go_simp; rfl) (by go_simp; rfl) (by go_simp)
theorem Yky {x0 y0 : Int} {x1 y1 : Int} {x2 y2 : ByteArray} : EqT Try.prog 25 [.int .i64 x0, .int .i64 x1, .str x2] [.int .i64 y0, .int .i64 y1, .str y2] ((x0 == y0) && ((x1 == y1) && (x2.toList == y2.toList))) := ⟨by kernel_rfl, rfl, rfl, fun w => Ynp 9998 w _ _ _ _ _ _⟩
end Go.Proofs.Ytlebkepfhdjnmac.A
