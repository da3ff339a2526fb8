/- The types of the program, as the abstract logic reads them. Written by a program of this session. Conditions: none. -/
import Derived.Test.YtlebkepfhdjnmaaDFnRates
import Derived.Test.YtlebkepfhdjnmaaRows
import Derived.KernelRfl
namespace Go.Proofs.Ytlebkepfhdjnmaa.A
open Go Go.Proofs Go.Proofs.YtlebkepfhdjnmaaAL Go.RowKit
set_option linter.unusedVariables false
set_option linter.unusedSimpArgs false
def ti3 : TI := ⟨.int .i64, 1, 8, [.int .i64 0], .ints .i64⟩
theorem Xoe : ti3.ok Try.prog 3 := ⟨Try.underlying3, ⟨Try.t3, _, Xea Try.type3, rfl, rfl, rfl, rfl⟩, rfl, rfl, by decide, ⟨rfl, rfl⟩⟩
def ti5 : TI := ⟨.int .u8, 1, 1, [.int .u8 0], .ints .u8⟩
theorem Xof : ti5.ok Try.prog 5 := ⟨Try.underlying5, ⟨Try.t5, _, Xea Try.type5, rfl, rfl, rfl, rfl⟩, rfl, rfl, by decide, ⟨rfl, rfl⟩⟩
def Xo7 : TI := ⟨.slice 5, 1, 24, [.nil], .none⟩
theorem Xns : Xo7.ok Try.prog 22 := ⟨Try.underlying22, ⟨Try.t22, _, Xea Try.type22, rfl, rfl, rfl, rfl⟩, rfl, rfl, by decide, trivial⟩
def Xo8 : TI := ⟨.struct [(0, 3, 1), (1, 3, 1), (2, 3, 1)], 3, 24, [.int .i64 0, .int .i64 0, .int .i64 0], .none⟩
theorem Xnt : Xo8.ok Try.prog 25 := ⟨⟨_, Try.underlying25, rfl, fun w => by simp [Try.sizeOf3]⟩, ⟨Try.t25, _, Xea Try.type25, rfl, rfl, rfl, rfl⟩, rfl, rfl, by decide, trivial⟩
def Xo9 : TI := ⟨.slice 3, 1, 24, [.nil], .none⟩
theorem Xnu : Xo9.ok Try.prog 26 := ⟨Try.underlying26, ⟨Try.t26, _, Xea Try.type26, rfl, rfl, rfl, rfl⟩, rfl, rfl, by decide, trivial⟩
def Xpa : TI := ⟨.struct [(0, 22, 1), (1, 3, 1), (2, 3, 1)], 3, 40, [.nil, .int .i64 0, .int .i64 0], .none⟩
theorem Xnv : Xpa.ok Try.prog 83 := ⟨⟨_, Try.underlying83, rfl, fun w => by simp [Try.sizeOf22, Try.sizeOf3]⟩, ⟨Try.t83, _, Xea Try.type83, rfl, rfl, rfl, rfl⟩, rfl, rfl, by decide, trivial⟩
def T : Nat → Option TI := lkT [(3, ti3), (5, ti5), (22, Xo7), (25, Xo8), (26, Xo9), (83, Xpa)]
theorem hT : TOk Try.prog T := Xnf (by
 intro p hp
 simp only [List.mem_cons, List.not_mem_nil, or_false] at hp
 rcases hp with rfl | rfl | rfl | rfl | rfl | rfl
 ·
  exact Xoe
 ·
  exact Xof
 ·
  exact Xns
 ·
  exact Xnt
 ·
  exact Xnu
 ·
  exact Xnv)
theorem hm : Try.prog.follows .mixedOrders = true := by kernel_rfl
theorem Xov (d : Nat) (w : World) (x0 y0 : Int) (x1 y1 : Int) (x2 y2 : Int) : (Op.equalIn (d + 2) 25 (.agg #[.int .i64 x0, .int .i64 x1, .int .i64 x2]) (.agg #[.int .i64 y0, .int .i64 y1, .int .i64 y2])).run Try.prog w = .ok ((x0 == y0) && ((x1 == y1) && (x2 == y2))) w := by
 refine Xn5 Try.underlying25 (by kernel_rfl) ?_
 refine Xjt (by rfl) (by go_simp; rfl) (by go_simp; rfl) (by go_simp) ?_
 refine Xjt (by rfl) (by go_simp; rfl) (by go_simp; rfl) (by go_simp) ?_
 exact Xmi (by rfl) (by go_simp; rfl) (by go_simp; rfl) (by go_simp)
theorem Xn6 {x0 y0 : Int} {x1 y1 : Int} {x2 y2 : Int} : EqT Try.prog 25 [.int .i64 x0, .int .i64 x1, .int .i64 x2] [.int .i64 y0, .int .i64 y1, .int .i64 y2] ((x0 == y0) && ((x1 == y1) && (x2 == y2))) := ⟨by kernel_rfl, rfl, rfl, fun w => Xov 9998 w _ _ _ _ _ _⟩
end Go.Proofs.Ytlebkepfhdjnmaa.A
