/- The types of the program, as the abstract logic reads them. Written by a program of this session. Conditions: none. -/
import Derived.Test.YtlebkepfhdjnmabDFnBestMove
import Derived.Test.YtlebkepfhdjnmabRows
import Derived.KernelRfl
namespace Go.Proofs.Ytlebkepfhdjnmab.A
open Go Go.Proofs Go.Proofs.YtlebkepfhdjnmabAL Go.RowKit
set_option linter.unusedVariables false
set_option linter.unusedSimpArgs false
def ti3 : TI := ⟨.int .i64, 1, 8, [.int .i64 0], .ints .i64⟩
theorem Xsn : ti3.ok Try.prog 3 := ⟨Try.underlying3, ⟨Try.t3, _, Xeg Try.type3, rfl, rfl, rfl, rfl⟩, rfl, rfl, by decide, ⟨rfl, rfl⟩⟩
def ti5 : TI := ⟨.int .u8, 1, 1, [.int .u8 0], .ints .u8⟩
theorem Xso : ti5.ok Try.prog 5 := ⟨Try.underlying5, ⟨Try.t5, _, Xeg Try.type5, rfl, rfl, rfl, rfl⟩, rfl, rfl, by decide, ⟨rfl, rfl⟩⟩
def ti9 : TI := ⟨.str, 1, 16, [.str ⟨#[]⟩], .none⟩
theorem Xsp : ti9.ok Try.prog 9 := ⟨Try.underlying9, ⟨Try.t9, _, Xeg Try.type9, rfl, rfl, rfl, rfl⟩, rfl, rfl, by decide, trivial⟩
def Xtc : TI := ⟨.slice 5, 1, 24, [.nil], .none⟩
theorem Xr1 : Xtc.ok Try.prog 22 := ⟨Try.underlying22, ⟨Try.t22, _, Xeg Try.type22, rfl, rfl, rfl, rfl⟩, rfl, rfl, by decide, trivial⟩
def Xtd : TI := ⟨.struct [(0, 3, 1), (1, 3, 1), (2, 9, 1)], 3, 32, [.int .i64 0, .int .i64 0, .str ⟨#[]⟩], .none⟩
theorem Xr2 : Xtd.ok Try.prog 25 := ⟨⟨_, Try.underlying25, rfl, fun w => by simp [Try.sizeOf3, Try.sizeOf9]⟩, ⟨Try.t25, _, Xeg Try.type25, rfl, rfl, rfl, rfl⟩, rfl, rfl, by decide, trivial⟩
def Xte : TI := ⟨.slice 3, 1, 24, [.nil], .none⟩
theorem Xr3 : Xte.ok Try.prog 28 := ⟨Try.underlying28, ⟨Try.t28, _, Xeg Try.type28, rfl, rfl, rfl, rfl⟩, rfl, rfl, by decide, trivial⟩
def Xtf : TI := ⟨.struct [(0, 3, 1), (1, 3, 1), (2, 3, 1), (3, 3, 1)], 4, 32, [.int .i64 0, .int .i64 0, .int .i64 0, .int .i64 0], .none⟩
theorem Xr4 : Xtf.ok Try.prog 96 := ⟨⟨_, Try.underlying96, rfl, fun w => by simp [Try.sizeOf3]⟩, ⟨Try.t96, _, Xeg Try.type96, rfl, rfl, rfl, rfl⟩, rfl, rfl, by decide, trivial⟩
def Xsm : TI := ⟨.struct [(0, 22, 1), (1, 3, 1), (2, 3, 1)], 3, 40, [.nil, .int .i64 0, .int .i64 0], .none⟩
theorem Xqz : Xsm.ok Try.prog 133 := ⟨⟨_, Try.underlying133, rfl, fun w => by simp [Try.sizeOf22, Try.sizeOf3]⟩, ⟨Try.t133, _, Xeg Try.type133, rfl, rfl, rfl, rfl⟩, rfl, rfl, by decide, trivial⟩
def T : Nat → Option TI := lkT [(3, ti3), (9, ti9), (5, ti5), (22, Xtc), (25, Xtd), (28, Xte), (96, Xtf), (133, Xsm)]
theorem hT : TOk Try.prog T := Xrp (by
 intro p hp
 simp only [List.mem_cons, List.not_mem_nil, or_false] at hp
 rcases hp with rfl | rfl | rfl | rfl | rfl | rfl | rfl | rfl
 ·
  exact Xsn
 ·
  exact Xsp
 ·
  exact Xso
 ·
  exact Xr1
 ·
  exact Xr2
 ·
  exact Xr3
 ·
  exact Xr4
 ·
  exact Xqz)
theorem hm : Try.prog.follows .mixedOrders = true := by kernel_rfl
end Go.Proofs.Ytlebkepfhdjnmab.A
