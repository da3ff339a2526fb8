/- The types of the program, as the abstract logic reads them. Written by a program of this session. Conditions: none. -/
import Derived.Test.YtplmeeookgefnaaDFnExactSentSize
import Derived.Test.YtplmeeookgefnaaRows
import Derived.KernelRfl
namespace Go.Proofs.Ytplmeeookgefnaa.A
open Go Go.Proofs Go.Proofs.YtplmeeookgefnaaAL Go.RowKit
set_option linter.unusedVariables false
set_option linter.unusedSimpArgs false
def eSquare (x : Square) : List SV := [.int .i64 x.Kind, .int .i64 x.Mode, .int .i64 x.Dx, .int .i64 x.Dy, .ints .i64 x.Levels]
def rSquare : List SV → Option Square
  | [x0, x1, x2, x3, x4] => (match gI .i64 x0, gI .i64 x1, gI .i64 x2, gI .i64 x3, gL .i64 x4 with | some a0, some a1, some a2, some a3, some a4 => some ⟨a0, a1, a2, a3, a4⟩ | _, _, _, _, _ => none)
  | _ => none
abbrev cSquare : Codec := ⟨Square, dSquare, 5, eSquare, rSquare⟩
theorem cSquare_ok : cSquare.ok := by
  refine ⟨fun _ => rfl, by decide, fun cs x h => ?_⟩
  change rSquare cs = some x at h
  unfold rSquare at h
  split at h
  · split at h
    · cases h
      refine ⟨rfl, fun j y hy => ?_⟩
      change (eSquare _)[j]? = some y at hy
      rcases j with _ | _ | _ | _ | _ | _
      · cases hy; exact ⟨_, rfl, gI_rep (by assumption)⟩
      · cases hy; exact ⟨_, rfl, gI_rep (by assumption)⟩
      · cases hy; exact ⟨_, rfl, gI_rep (by assumption)⟩
      · cases hy; exact ⟨_, rfl, gI_rep (by assumption)⟩
      · cases hy; exact ⟨_, rfl, gL_rep (by assumption)⟩
      · simp [eSquare] at hy
    · cases h
  · cases h
theorem cSquare_cov : Covers [.int .i64 0, .int .i64 0, .int .i64 0, .int .i64 0, .nil] (cSquare.enc cSquare.d) := by
  intro j y hy
  change (eSquare _)[j]? = some y at hy
  rcases j with _ | _ | _ | _ | _ | _
  · cases hy; exact ⟨_, rfl, fun _ _ _ h => h⟩
  · cases hy; exact ⟨_, rfl, fun _ _ _ h => h⟩
  · cases hy; exact ⟨_, rfl, fun _ _ _ h => h⟩
  · cases hy; exact ⟨_, rfl, fun _ _ _ h => h⟩
  · cases hy; exact ⟨_, rfl, gL_rep (k := .i64) rfl⟩
  · simp [eSquare] at hy
theorem cSquare_id (l : List Square) : (l.filterMap fun y => cSquare.dec (cSquare.enc y)) = l := by
  rw [show (fun y => cSquare.dec (cSquare.enc y)) = some from funext fun y => rfl]; exact List.filterMap_some
def ti3 : TI := ⟨.int .i64, 1, 8, [.int .i64 0], .ints .i64⟩
theorem ti3_ok : ti3.ok Try.prog 3 := ⟨Try.underlying3, ⟨Try.t3, _, info_of Try.type3, rfl, rfl, rfl, rfl⟩, rfl, rfl, by decide, ⟨rfl, rfl⟩⟩
def ti4 : TI := ⟨.bool, 1, 1, [.bool false], .none⟩
theorem ti4_ok : ti4.ok Try.prog 4 := ⟨Try.underlying4, ⟨Try.t4, _, info_of Try.type4, rfl, rfl, rfl, rfl⟩, rfl, rfl, by decide, trivial⟩
def ti5 : TI := ⟨.int .u8, 1, 1, [.int .u8 0], .ints .u8⟩
theorem ti5_ok : ti5.ok Try.prog 5 := ⟨Try.underlying5, ⟨Try.t5, _, info_of Try.type5, rfl, rfl, rfl, rfl⟩, rfl, rfl, by decide, ⟨rfl, rfl⟩⟩
def ti9 : TI := ⟨.str, 1, 16, [.str ⟨#[]⟩], .none⟩
theorem ti9_ok : ti9.ok Try.prog 9 := ⟨Try.underlying9, ⟨Try.t9, _, info_of Try.type9, rfl, rfl, rfl, rfl⟩, rfl, rfl, by decide, trivial⟩
def ti22 : TI := ⟨.slice 5, 1, 24, [.nil], .none⟩
theorem ti22_ok : ti22.ok Try.prog 22 := ⟨Try.underlying22, ⟨Try.t22, _, info_of Try.type22, rfl, rfl, rfl, rfl⟩, rfl, rfl, by decide, trivial⟩
def ti26 : TI := ⟨.slice 3, 1, 24, [.nil], .none⟩
theorem ti26_ok : ti26.ok Try.prog 26 := ⟨Try.underlying26, ⟨Try.t26, _, info_of Try.type26, rfl, rfl, rfl, rfl⟩, rfl, rfl, by decide, trivial⟩
def ti70 : TI := ⟨.slice 178, 1, 24, [.nil], .none⟩
theorem ti70_ok : ti70.ok Try.prog 70 := ⟨Try.underlying70, ⟨Try.t70, _, info_of Try.type70, rfl, rfl, rfl, rfl⟩, rfl, rfl, by decide, trivial⟩
def ti72 : TI := ⟨.struct [(0, 4, 1), (1, 3, 1), (2, 4, 1), (3, 4, 1)], 4, 24, [.bool false, .int .i64 0, .bool false, .bool false], .none⟩
theorem ti72_ok : ti72.ok Try.prog 72 := ⟨⟨_, Try.underlying72, rfl, fun w => by simp [Try.sizeOf3, Try.sizeOf4]⟩, ⟨Try.t72, _, info_of Try.type72, rfl, rfl, rfl, rfl⟩, rfl, rfl, by decide, trivial⟩
def ti75 : TI := ⟨.slice 113, 1, 24, [.nil], .none⟩
theorem ti75_ok : ti75.ok Try.prog 75 := ⟨Try.underlying75, ⟨Try.t75, _, info_of Try.type75, rfl, rfl, rfl, rfl⟩, rfl, rfl, by decide, trivial⟩
def ti77 : TI := ⟨.struct [(0, 4, 1), (1, 3, 1), (2, 4, 1), (3, 4, 1)], 4, 24, [.bool false, .int .i64 0, .bool false, .bool false], .none⟩
theorem ti77_ok : ti77.ok Try.prog 77 := ⟨⟨_, Try.underlying77, rfl, fun w => by simp [Try.sizeOf3, Try.sizeOf4]⟩, ⟨Try.t77, _, info_of Try.type77, rfl, rfl, rfl, rfl⟩, rfl, rfl, by decide, trivial⟩
def ti113 : TI := ⟨.struct [(0, 3, 1), (1, 3, 1), (2, 3, 1), (3, 3, 1), (4, 26, 1)], 5, 56, [.int .i64 0, .int .i64 0, .int .i64 0, .int .i64 0, .nil], .row cSquare⟩
theorem ti113_ok : ti113.ok Try.prog 113 := ⟨⟨_, Try.underlying113, rfl, fun w => by simp [Try.sizeOf26, Try.sizeOf3]⟩, ⟨Try.t113, _, info_of Try.type113, rfl, rfl, rfl, rfl⟩, rfl, rfl, by decide, ⟨cSquare_ok, rfl, cSquare_cov⟩⟩
def ti178 : TI := ⟨.struct [(0, 3, 1), (1, 3, 1), (2, 3, 1), (3, 3, 1), (4, 26, 1)], 5, 56, [.int .i64 0, .int .i64 0, .int .i64 0, .int .i64 0, .nil], .row cSquare⟩
theorem ti178_ok : ti178.ok Try.prog 178 := ⟨⟨_, Try.underlying178, rfl, fun w => by simp [Try.sizeOf26, Try.sizeOf3]⟩, ⟨Try.t178, _, info_of Try.type178, rfl, rfl, rfl, rfl⟩, rfl, rfl, by decide, ⟨cSquare_ok, rfl, cSquare_cov⟩⟩
def T : Nat → Option TI := lkT [(3, ti3), (4, ti4), (9, ti9), (5, ti5), (22, ti22), (26, ti26), (70, ti70), (72, ti72), (75, ti75), (77, ti77), (113, ti113), (178, ti178)]
theorem hT : TOk Try.prog T := lkT_all (by
  intro p hp
  simp only [List.mem_cons, List.not_mem_nil, or_false] at hp
  rcases hp with rfl | rfl | rfl | rfl | rfl | rfl | rfl | rfl | rfl | rfl | rfl | rfl
  · exact ti3_ok
  · exact ti4_ok
  · exact ti9_ok
  · exact ti5_ok
  · exact ti22_ok
  · exact ti26_ok
  · exact ti70_ok
  · exact ti72_ok
  · exact ti75_ok
  · exact ti77_ok
  · exact ti113_ok
  · exact ti178_ok)
theorem hm : Try.prog.follows .mixedOrders = true := by kernel_rfl
end Go.Proofs.Ytplmeeookgefnaa.A
