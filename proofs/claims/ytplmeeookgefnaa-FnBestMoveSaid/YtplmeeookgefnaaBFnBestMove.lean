/- The types of the program, as the abstract logic reads them. Written by a program of this session. Conditions: none. -/
import Derived.Test.YtplmeeookgefnaaDFnBestMove
import Derived.Test.YtplmeeookgefnaaRows
import Derived.KernelRfl
namespace Go.Proofs.Ytplmeeookgefnaa.A
open Go Go.Proofs Go.Proofs.YtplmeeookgefnaaAL Go.RowKit
set_option linter.unusedVariables false
set_option linter.unusedSimpArgs false
def ti3 : TI := ⟨.int .i64, 1, 8, [.int .i64 0], .ints .i64⟩
theorem ti3_ok : ti3.ok Try.prog 3 := ⟨Try.underlying3, ⟨Try.t3, _, info_of Try.type3, rfl, rfl, rfl, rfl⟩, rfl, rfl, by decide, ⟨rfl, rfl⟩⟩
def ti5 : TI := ⟨.int .u8, 1, 1, [.int .u8 0], .ints .u8⟩
theorem ti5_ok : ti5.ok Try.prog 5 := ⟨Try.underlying5, ⟨Try.t5, _, info_of Try.type5, rfl, rfl, rfl, rfl⟩, rfl, rfl, by decide, ⟨rfl, rfl⟩⟩
def ti9 : TI := ⟨.str, 1, 16, [.str ⟨#[]⟩], .none⟩
theorem ti9_ok : ti9.ok Try.prog 9 := ⟨Try.underlying9, ⟨Try.t9, _, info_of Try.type9, rfl, rfl, rfl, rfl⟩, rfl, rfl, by decide, trivial⟩
def ti22 : TI := ⟨.slice 5, 1, 24, [.nil], .none⟩
theorem ti22_ok : ti22.ok Try.prog 22 := ⟨Try.underlying22, ⟨Try.t22, _, info_of Try.type22, rfl, rfl, rfl, rfl⟩, rfl, rfl, by decide, trivial⟩
def ti26 : TI := ⟨.slice 3, 1, 24, [.nil], .none⟩
theorem ti26_ok : ti26.ok Try.prog 26 := ⟨Try.underlying26, ⟨Try.t26, _, info_of Try.type26, rfl, rfl, rfl, rfl⟩, rfl, rfl, by decide, trivial⟩
def ti35 : TI := ⟨.struct [(0, 3, 1), (1, 3, 1), (2, 9, 1)], 3, 32, [.int .i64 0, .int .i64 0, .str ⟨#[]⟩], .none⟩
theorem ti35_ok : ti35.ok Try.prog 35 := ⟨⟨_, Try.underlying35, rfl, fun w => by simp [Try.sizeOf3, Try.sizeOf9]⟩, ⟨Try.t35, _, info_of Try.type35, rfl, rfl, rfl, rfl⟩, rfl, rfl, by decide, trivial⟩
def ti123 : TI := ⟨.struct [(0, 3, 1), (1, 3, 1), (2, 3, 1), (3, 3, 1)], 4, 32, [.int .i64 0, .int .i64 0, .int .i64 0, .int .i64 0], .none⟩
theorem ti123_ok : ti123.ok Try.prog 123 := ⟨⟨_, Try.underlying123, rfl, fun w => by simp [Try.sizeOf3]⟩, ⟨Try.t123, _, info_of Try.type123, rfl, rfl, rfl, rfl⟩, rfl, rfl, by decide, trivial⟩
def ti224 : TI := ⟨.struct [(0, 22, 1), (1, 3, 1), (2, 3, 1)], 3, 40, [.nil, .int .i64 0, .int .i64 0], .none⟩
theorem ti224_ok : ti224.ok Try.prog 224 := ⟨⟨_, Try.underlying224, rfl, fun w => by simp [Try.sizeOf22, Try.sizeOf3]⟩, ⟨Try.t224, _, info_of Try.type224, rfl, rfl, rfl, rfl⟩, rfl, rfl, by decide, trivial⟩
def T : Nat → Option TI := lkT [(3, ti3), (9, ti9), (5, ti5), (22, ti22), (26, ti26), (35, ti35), (123, ti123), (224, ti224)]
theorem hT : TOk Try.prog T := lkT_all (by
  intro p hp
  simp only [List.mem_cons, List.not_mem_nil, or_false] at hp
  rcases hp with rfl | rfl | rfl | rfl | rfl | rfl | rfl | rfl
  · exact ti3_ok
  · exact ti9_ok
  · exact ti5_ok
  · exact ti22_ok
  · exact ti26_ok
  · exact ti35_ok
  · exact ti123_ok
  · exact ti224_ok)
theorem hm : Try.prog.follows .mixedOrders = true := by kernel_rfl
end Go.Proofs.Ytplmeeookgefnaa.A
