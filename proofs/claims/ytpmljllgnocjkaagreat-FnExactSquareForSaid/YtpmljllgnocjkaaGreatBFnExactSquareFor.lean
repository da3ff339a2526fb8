/- The types of the program, as the abstract logic reads them. Written by a program of this session. Conditions: none. -/
import Derived.Test.YtpmljllgnocjkaaGreatDFnExactSquareFor
import Derived.Test.YtpmljllgnocjkaaGreatRows
import Derived.KernelRfl
namespace Go.Proofs.YtpmljllgnocjkaaGreat.A
open Go Go.Proofs Go.Proofs.YtpmljllgnocjkaaGreatAL Go.RowKit
set_option linter.unusedVariables false
set_option linter.unusedSimpArgs false
def eLInti64 (x : (List Int)) : List SV := [.ints .i64 x]
def rLInti64 : List SV → Option (List Int)
 | [x0] => (match gL .i64 x0 with | some a0 => some a0 | _ => none)
 | _ => none
abbrev cLInti64 : Codec := ⟨(List Int), dLInti64, 1, eLInti64, rLInti64⟩
theorem cLInti64_ok : cLInti64.ok := by
 refine ⟨fun _ => rfl, by decide, fun cs x h => ?_⟩
 change rLInti64 cs = some x at h
 unfold rLInti64 at h
 split at h
 ·
  split at h
  ·
   cases h
   refine ⟨rfl, fun j y hy => ?_⟩
   change (eLInti64 _)[j]? = some y at hy
   rcases j with _ | _
   ·
    cases hy; exact ⟨_, rfl, gL_rep (by assumption)⟩
   ·
    simp [eLInti64] at hy
  ·
   cases h
 ·
  cases h
theorem cLInti64_cov : Covers [.nil] (cLInti64.enc cLInti64.d) := by
 intro j y hy
 change (eLInti64 _)[j]? = some y at hy
 rcases j with _ | _
 ·
  cases hy; exact ⟨_, rfl, gL_rep (k := .i64) rfl⟩
 ·
  simp [eLInti64] at hy
theorem cLInti64_id (l : List (List Int)) : (l.filterMap fun y => cLInti64.dec (cLInti64.enc y)) = l := by
 rw [show (fun y => cLInti64.dec (cLInti64.enc y)) = some from funext fun y => rfl]; exact List.filterMap_some
def ti3 : TI := ⟨.int .i64, 1, 8, [.int .i64 0], .ints .i64⟩
theorem ti3_ok : ti3.ok Tryz.prog 3 := ⟨Tryz.underlying3, ⟨Tryz.t3, _, info_of Tryz.type3, rfl, rfl, rfl, rfl⟩, rfl, rfl, by decide, ⟨rfl, rfl⟩⟩
def ti4 : TI := ⟨.bool, 1, 1, [.bool false], .none⟩
theorem ti4_ok : ti4.ok Tryz.prog 4 := ⟨Tryz.underlying4, ⟨Tryz.t4, _, info_of Tryz.type4, rfl, rfl, rfl, rfl⟩, rfl, rfl, by decide, trivial⟩
def ti5 : TI := ⟨.int .u8, 1, 1, [.int .u8 0], .ints .u8⟩
theorem ti5_ok : ti5.ok Tryz.prog 5 := ⟨Tryz.underlying5, ⟨Tryz.t5, _, info_of Tryz.type5, rfl, rfl, rfl, rfl⟩, rfl, rfl, by decide, ⟨rfl, rfl⟩⟩
def ti9 : TI := ⟨.str, 1, 16, [.str ⟨#[]⟩], .none⟩
theorem ti9_ok : ti9.ok Tryz.prog 9 := ⟨Tryz.underlying9, ⟨Tryz.t9, _, info_of Tryz.type9, rfl, rfl, rfl, rfl⟩, rfl, rfl, by decide, trivial⟩
def ti23 : TI := ⟨.struct [(0, 3, 1), (1, 3, 1), (2, 9, 1)], 3, 32, [.int .i64 0, .int .i64 0, .str ⟨#[]⟩], .none⟩
theorem ti23_ok : ti23.ok Tryz.prog 23 := ⟨⟨_, Tryz.underlying23, rfl, fun w => by simp [Tryz.sizeOf3, Tryz.sizeOf9]⟩, ⟨Tryz.t23, _, info_of Tryz.type23, rfl, rfl, rfl, rfl⟩, rfl, rfl, by decide, trivial⟩
def ti24 : TI := ⟨.slice 3, 1, 24, [.nil], .row cLInti64⟩
theorem ti24_ok : ti24.ok Tryz.prog 24 := ⟨Tryz.underlying24, ⟨Tryz.t24, _, info_of Tryz.type24, rfl, rfl, rfl, rfl⟩, rfl, rfl, by decide, ⟨cLInti64_ok, rfl, cLInti64_cov⟩⟩
def ti26 : TI := ⟨.struct [(0, 4, 1), (1, 3, 1), (2, 4, 1), (3, 4, 1)], 4, 24, [.bool false, .int .i64 0, .bool false, .bool false], .none⟩
theorem ti26_ok : ti26.ok Tryz.prog 26 := ⟨⟨_, Tryz.underlying26, rfl, fun w => by simp [Tryz.sizeOf3, Tryz.sizeOf4]⟩, ⟨Tryz.t26, _, info_of Tryz.type26, rfl, rfl, rfl, rfl⟩, rfl, rfl, by decide, trivial⟩
def ti29 : TI := ⟨.struct [(0, 3, 1), (1, 3, 1), (2, 3, 1), (3, 3, 1), (4, 24, 1)], 5, 56, [.int .i64 0, .int .i64 0, .int .i64 0, .int .i64 0, .nil], .none⟩
theorem ti29_ok : ti29.ok Tryz.prog 29 := ⟨⟨_, Tryz.underlying29, rfl, fun w => by simp [Tryz.sizeOf24, Tryz.sizeOf3]⟩, ⟨Tryz.t29, _, info_of Tryz.type29, rfl, rfl, rfl, rfl⟩, rfl, rfl, by decide, trivial⟩
def ti32 : TI := ⟨.struct [(0, 3, 1), (1, 3, 1), (2, 9, 1)], 3, 32, [.int .i64 0, .int .i64 0, .str ⟨#[]⟩], .none⟩
theorem ti32_ok : ti32.ok Tryz.prog 32 := ⟨⟨_, Tryz.underlying32, rfl, fun w => by simp [Tryz.sizeOf3, Tryz.sizeOf9]⟩, ⟨Tryz.t32, _, info_of Tryz.type32, rfl, rfl, rfl, rfl⟩, rfl, rfl, by decide, trivial⟩
def ti35 : TI := ⟨.struct [(0, 4, 1), (1, 3, 1), (2, 4, 1), (3, 4, 1)], 4, 24, [.bool false, .int .i64 0, .bool false, .bool false], .none⟩
theorem ti35_ok : ti35.ok Tryz.prog 35 := ⟨⟨_, Tryz.underlying35, rfl, fun w => by simp [Tryz.sizeOf3, Tryz.sizeOf4]⟩, ⟨Tryz.t35, _, info_of Tryz.type35, rfl, rfl, rfl, rfl⟩, rfl, rfl, by decide, trivial⟩
def ti58 : TI := ⟨.struct [(0, 3, 1), (1, 3, 1), (2, 3, 1), (3, 3, 1)], 4, 32, [.int .i64 0, .int .i64 0, .int .i64 0, .int .i64 0], .none⟩
theorem ti58_ok : ti58.ok Tryz.prog 58 := ⟨⟨_, Tryz.underlying58, rfl, fun w => by simp [Tryz.sizeOf3]⟩, ⟨Tryz.t58, _, info_of Tryz.type58, rfl, rfl, rfl, rfl⟩, rfl, rfl, by decide, trivial⟩
def ti95 : TI := ⟨.struct [(0, 24, 1), (1, 24, 1), (2, 3, 1)], 3, 56, [.nil, .nil, .int .i64 0], .none⟩
theorem ti95_ok : ti95.ok Tryz.prog 95 := ⟨⟨_, Tryz.underlying95, rfl, fun w => by simp [Tryz.sizeOf24, Tryz.sizeOf3]⟩, ⟨Tryz.t95, _, info_of Tryz.type95, rfl, rfl, rfl, rfl⟩, rfl, rfl, by decide, trivial⟩
def ti133 : TI := ⟨.int .u64, 1, 8, [.int .u64 0], .ints .u64⟩
theorem ti133_ok : ti133.ok Tryz.prog 133 := ⟨Tryz.underlying133, ⟨Tryz.t133, _, info_of Tryz.type133, rfl, rfl, rfl, rfl⟩, rfl, rfl, by decide, ⟨rfl, rfl⟩⟩
def ti152 : TI := ⟨.slice 5, 1, 24, [.nil], .none⟩
theorem ti152_ok : ti152.ok Tryz.prog 152 := ⟨Tryz.underlying152, ⟨Tryz.t152, _, info_of Tryz.type152, rfl, rfl, rfl, rfl⟩, rfl, rfl, by decide, trivial⟩
def ti178 : TI := ⟨.slice 24, 1, 24, [.nil], .none⟩
theorem ti178_ok : ti178.ok Tryz.prog 178 := ⟨Tryz.underlying178, ⟨Tryz.t178, _, info_of Tryz.type178, rfl, rfl, rfl, rfl⟩, rfl, rfl, by decide, trivial⟩
def ti182 : TI := ⟨.arr 4 3, 4, 32, [.int .i64 0, .int .i64 0, .int .i64 0, .int .i64 0], .none⟩
theorem ti182_ok : ti182.ok Tryz.prog 182 := ⟨Tryz.underlying182, ⟨Tryz.t182, _, info_of Tryz.type182, rfl, rfl, rfl, rfl⟩, rfl, rfl, by decide, trivial⟩
def ti191 : TI := ⟨.arr 3 3, 3, 24, [.int .i64 0, .int .i64 0, .int .i64 0], .none⟩
theorem ti191_ok : ti191.ok Tryz.prog 191 := ⟨Tryz.underlying191, ⟨Tryz.t191, _, info_of Tryz.type191, rfl, rfl, rfl, rfl⟩, rfl, rfl, by decide, trivial⟩
def ti192 : TI := ⟨.arr 6 191, 18, 144, [.int .i64 0, .int .i64 0, .int .i64 0, .int .i64 0, .int .i64 0, .int .i64 0, .int .i64 0, .int .i64 0, .int .i64 0, .int .i64 0, .int .i64 0, .int .i64 0, .int .i64 0, .int .i64 0, .int .i64 0, .int .i64 0, .int .i64 0, .int .i64 0], .none⟩
theorem ti192_ok : ti192.ok Tryz.prog 192 := ⟨Tryz.underlying192, ⟨Tryz.t192, _, info_of Tryz.type192, rfl, rfl, rfl, rfl⟩, rfl, rfl, by decide, trivial⟩
def T : Nat → Option TI := lkT [(3, ti3), (4, ti4), (9, ti9), (5, ti5), (23, ti23), (24, ti24), (26, ti26), (29, ti29), (32, ti32), (35, ti35), (58, ti58), (95, ti95), (133, ti133), (152, ti152), (178, ti178), (182, ti182), (191, ti191), (192, ti192)]
theorem hT : TOk Tryz.prog T := lkT_all (by
 intro p hp
 simp only [List.mem_cons, List.not_mem_nil, or_false] at hp
 rcases hp with rfl | rfl | rfl | rfl | rfl | rfl | rfl | rfl | rfl | rfl | rfl | rfl | rfl | rfl | rfl | rfl | rfl | rfl
 ·
  exact ti3_ok
 ·
  exact ti4_ok
 ·
  exact ti9_ok
 ·
  exact ti5_ok
 ·
  exact ti23_ok
 ·
  exact ti24_ok
 ·
  exact ti26_ok
 ·
  exact ti29_ok
 ·
  exact ti32_ok
 ·
  exact ti35_ok
 ·
  exact ti58_ok
 ·
  exact ti95_ok
 ·
  exact ti133_ok
 ·
  exact ti152_ok
 ·
  exact ti178_ok
 ·
  exact ti182_ok
 ·
  exact ti191_ok
 ·
  exact ti192_ok)
theorem hm : Tryz.prog.follows .mixedOrders = true := by kernel_rfl
end Go.Proofs.YtpmljllgnocjkaaGreat.A
