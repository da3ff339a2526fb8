/- The types of the program, as the abstract logic reads them. Written by a program of this session. Conditions: none. -/
import Derived.Test.YtjfkbpgdghijfaaDFnFills
import Derived.Test.YtjfkbpgdghijfaaRows
import Derived.KernelRfl
namespace Go.Proofs.Ytjfkbpgdghijfaa.A
open Go Go.Proofs Go.Proofs.YtjfkbpgdghijfaaAL Go.RowKit
set_option linter.unusedVariables false
set_option linter.unusedSimpArgs false
def eLInti64 (x : (List Int)) : List SV := [.ints .i64 x]
def rLInti64 : List SV → Option (List Int)
 | [x0] => (match gL .i64 x0 with | some a0 => some a0 | _ => none)
 | _ => none
abbrev cLInti64 : Codec := ⟨(List Int), dLInti64, 1, eLInti64, rLInti64⟩
theorem cLInti64_ok : cLInti64.ok := by
 refine ⟨fun _ => rfl, by decide, fun cs x h => ?_⟩
 change rLInti64 cs = some x at h
 unfold rLInti64 at h
 split at h
 ·
  split at h
  ·
   cases h
   refine ⟨rfl, fun j y hy => ?_⟩
   change (eLInti64 _)[j]? = some y at hy
   rcases j with _ | _
   ·
    cases hy; exact ⟨_, rfl, gL_rep (by assumption)⟩
   ·
    simp [eLInti64] at hy
  ·
   cases h
 ·
  cases h
theorem cLInti64_cov : Covers [.nil] (cLInti64.enc cLInti64.d) := by
 intro j y hy
 change (eLInti64 _)[j]? = some y at hy
 rcases j with _ | _
 ·
  cases hy; exact ⟨_, rfl, gL_rep (k := .i64) rfl⟩
 ·
  simp [eLInti64] at hy
theorem cLInti64_id (l : List (List Int)) : (l.filterMap fun y => cLInti64.dec (cLInti64.enc y)) = l := by
 rw [show (fun y => cLInti64.dec (cLInti64.enc y)) = some from funext fun y => rfl]; exact List.filterMap_some
def eSquare (x : Square) : List SV := [.int .i64 x.Kind, .int .i64 x.Mode, .int .i64 x.Dx, .int .i64 x.Dy, .ints .i64 x.Levels]
def rSquare : List SV → Option Square
 | [x0, x1, x2, x3, x4] => (match gI .i64 x0, gI .i64 x1, gI .i64 x2, gI .i64 x3, gL .i64 x4 with | some a0, some a1, some a2, some a3, some a4 => some ⟨a0, a1, a2, a3, a4⟩ | _, _, _, _, _ => none)
 | _ => none
abbrev cSquare : Codec := ⟨Square, dSquare, 5, eSquare, rSquare⟩
theorem cSquare_ok : cSquare.ok := by
 refine ⟨fun _ => rfl, by decide, fun cs x h => ?_⟩
 change rSquare cs = some x at h
 unfold rSquare at h
 split at h
 ·
  split at h
  ·
   cases h
   refine ⟨rfl, fun j y hy => ?_⟩
   change (eSquare _)[j]? = some y at hy
   rcases j with _ | _ | _ | _ | _ | _
   ·
    cases hy; exact ⟨_, rfl, gI_rep (by assumption)⟩
   ·
    cases hy; exact ⟨_, rfl, gI_rep (by assumption)⟩
   ·
    cases hy; exact ⟨_, rfl, gI_rep (by assumption)⟩
   ·
    cases hy; exact ⟨_, rfl, gI_rep (by assumption)⟩
   ·
    cases hy; exact ⟨_, rfl, gL_rep (by assumption)⟩
   ·
    simp [eSquare] at hy
  ·
   cases h
 ·
  cases h
theorem cSquare_cov : Covers [.int .i64 0, .int .i64 0, .int .i64 0, .int .i64 0, .nil] (cSquare.enc cSquare.d) := by
 intro j y hy
 change (eSquare _)[j]? = some y at hy
 rcases j with _ | _ | _ | _ | _ | _
 ·
  cases hy; exact ⟨_, rfl, fun _ _ _ h => h⟩
 ·
  cases hy; exact ⟨_, rfl, fun _ _ _ h => h⟩
 ·
  cases hy; exact ⟨_, rfl, fun _ _ _ h => h⟩
 ·
  cases hy; exact ⟨_, rfl, fun _ _ _ h => h⟩
 ·
  cases hy; exact ⟨_, rfl, gL_rep (k := .i64) rfl⟩
 ·
  simp [eSquare] at hy
theorem cSquare_id (l : List Square) : (l.filterMap fun y => cSquare.dec (cSquare.enc y)) = l := by
 rw [show (fun y => cSquare.dec (cSquare.enc y)) = some from funext fun y => rfl]; exact List.filterMap_some
def ti3 : TI := ⟨.int .i64, 1, 8, [.int .i64 0], .ints .i64⟩
theorem ti3_ok : ti3.ok Try.prog 3 := ⟨Try.underlying3, ⟨Try.t3, _, info_of Try.type3, rfl, rfl, rfl, rfl⟩, rfl, rfl, by decide, ⟨rfl, rfl⟩⟩
def ti4 : TI := ⟨.bool, 1, 1, [.bool false], .none⟩
theorem ti4_ok : ti4.ok Try.prog 4 := ⟨Try.underlying4, ⟨Try.t4, _, info_of Try.type4, rfl, rfl, rfl, rfl⟩, rfl, rfl, by decide, trivial⟩
def ti5 : TI := ⟨.int .u8, 1, 1, [.int .u8 0], .ints .u8⟩
theorem ti5_ok : ti5.ok Try.prog 5 := ⟨Try.underlying5, ⟨Try.t5, _, info_of Try.type5, rfl, rfl, rfl, rfl⟩, rfl, rfl, by decide, ⟨rfl, rfl⟩⟩
def ti9 : TI := ⟨.str, 1, 16, [.str ⟨#[]⟩], .none⟩
theorem ti9_ok : ti9.ok Try.prog 9 := ⟨Try.underlying9, ⟨Try.t9, _, info_of Try.type9, rfl, rfl, rfl, rfl⟩, rfl, rfl, by decide, trivial⟩
def ti22 : TI := ⟨.slice 5, 1, 24, [.nil], .none⟩
theorem ti22_ok : ti22.ok Try.prog 22 := ⟨Try.underlying22, ⟨Try.t22, _, info_of Try.type22, rfl, rfl, rfl, rfl⟩, rfl, rfl, by decide, trivial⟩
def ti25 : TI := ⟨.struct [(0, 3, 1), (1, 3, 1), (2, 9, 1)], 3, 32, [.int .i64 0, .int .i64 0, .str ⟨#[]⟩], .none⟩
theorem ti25_ok : ti25.ok Try.prog 25 := ⟨⟨_, Try.underlying25, rfl, fun w => by simp [Try.sizeOf3, Try.sizeOf9]⟩, ⟨Try.t25, _, info_of Try.type25, rfl, rfl, rfl, rfl⟩, rfl, rfl, by decide, trivial⟩
def ti29 : TI := ⟨.struct [(0, 4, 1), (1, 3, 1), (2, 4, 1), (3, 4, 1)], 4, 24, [.bool false, .int .i64 0, .bool false, .bool false], .none⟩
theorem ti29_ok : ti29.ok Try.prog 29 := ⟨⟨_, Try.underlying29, rfl, fun w => by simp [Try.sizeOf3, Try.sizeOf4]⟩, ⟨Try.t29, _, info_of Try.type29, rfl, rfl, rfl, rfl⟩, rfl, rfl, by decide, trivial⟩
def ti31 : TI := ⟨.slice 3, 1, 24, [.nil], .row cLInti64⟩
theorem ti31_ok : ti31.ok Try.prog 31 := ⟨Try.underlying31, ⟨Try.t31, _, info_of Try.type31, rfl, rfl, rfl, rfl⟩, rfl, rfl, by decide, ⟨cLInti64_ok, rfl, cLInti64_cov⟩⟩
def ti35 : TI := ⟨.struct [(0, 3, 1), (1, 3, 1), (2, 3, 1), (3, 3, 1), (4, 31, 1)], 5, 56, [.int .i64 0, .int .i64 0, .int .i64 0, .int .i64 0, .nil], .row cSquare⟩
theorem ti35_ok : ti35.ok Try.prog 35 := ⟨⟨_, Try.underlying35, rfl, fun w => by simp [Try.sizeOf3, Try.sizeOf31]⟩, ⟨Try.t35, _, info_of Try.type35, rfl, rfl, rfl, rfl⟩, rfl, rfl, by decide, ⟨cSquare_ok, rfl, cSquare_cov⟩⟩
def ti42 : TI := ⟨.slice 35, 1, 24, [.nil], .none⟩
theorem ti42_ok : ti42.ok Try.prog 42 := ⟨Try.underlying42, ⟨Try.t42, _, info_of Try.type42, rfl, rfl, rfl, rfl⟩, rfl, rfl, by decide, trivial⟩
def ti47 : TI := ⟨.struct [(0, 3, 1), (1, 3, 1), (2, 3, 1), (3, 3, 1)], 4, 32, [.int .i64 0, .int .i64 0, .int .i64 0, .int .i64 0], .none⟩
theorem ti47_ok : ti47.ok Try.prog 47 := ⟨⟨_, Try.underlying47, rfl, fun w => by simp [Try.sizeOf3]⟩, ⟨Try.t47, _, info_of Try.type47, rfl, rfl, rfl, rfl⟩, rfl, rfl, by decide, trivial⟩
def ti51 : TI := ⟨.struct [(0, 3, 1), (1, 3, 1), (2, 31, 1), (3, 31, 1)], 4, 64, [.int .i64 0, .int .i64 0, .nil, .nil], .none⟩
theorem ti51_ok : ti51.ok Try.prog 51 := ⟨⟨_, Try.underlying51, rfl, fun w => by simp [Try.sizeOf3, Try.sizeOf31]⟩, ⟨Try.t51, _, info_of Try.type51, rfl, rfl, rfl, rfl⟩, rfl, rfl, by decide, trivial⟩
def ti53 : TI := ⟨.struct [(0, 3, 1), (1, 4, 1), (2, 4, 1), (3, 4, 1)], 4, 16, [.int .i64 0, .bool false, .bool false, .bool false], .none⟩
theorem ti53_ok : ti53.ok Try.prog 53 := ⟨⟨_, Try.underlying53, rfl, fun w => by simp [Try.sizeOf3, Try.sizeOf4]⟩, ⟨Try.t53, _, info_of Try.type53, rfl, rfl, rfl, rfl⟩, rfl, rfl, by decide, trivial⟩
def ti55 : TI := ⟨.struct [(0, 3, 1), (1, 3, 1), (2, 3, 1)], 3, 24, [.int .i64 0, .int .i64 0, .int .i64 0], .none⟩
theorem ti55_ok : ti55.ok Try.prog 55 := ⟨⟨_, Try.underlying55, rfl, fun w => by simp [Try.sizeOf3]⟩, ⟨Try.t55, _, info_of Try.type55, rfl, rfl, rfl, rfl⟩, rfl, rfl, by decide, trivial⟩
def ti59 : TI := ⟨.struct [(0, 4, 1), (1, 3, 1), (2, 9, 1)], 3, 32, [.bool false, .int .i64 0, .str ⟨#[]⟩], .none⟩
theorem ti59_ok : ti59.ok Try.prog 59 := ⟨⟨_, Try.underlying59, rfl, fun w => by simp [Try.sizeOf3, Try.sizeOf4, Try.sizeOf9]⟩, ⟨Try.t59, _, info_of Try.type59, rfl, rfl, rfl, rfl⟩, rfl, rfl, by decide, trivial⟩
def ti100 : TI := ⟨.struct [(0, 31, 1), (1, 31, 1), (2, 3, 1)], 3, 56, [.nil, .nil, .int .i64 0], .none⟩
theorem ti100_ok : ti100.ok Try.prog 100 := ⟨⟨_, Try.underlying100, rfl, fun w => by simp [Try.sizeOf3, Try.sizeOf31]⟩, ⟨Try.t100, _, info_of Try.type100, rfl, rfl, rfl, rfl⟩, rfl, rfl, by decide, trivial⟩
def ti128 : TI := ⟨.struct [(0, 9, 1), (1, 3, 1), (2, 4, 1)], 3, 32, [.str ⟨#[]⟩, .int .i64 0, .bool false], .none⟩
theorem ti128_ok : ti128.ok Try.prog 128 := ⟨⟨_, Try.underlying128, rfl, fun w => by simp [Try.sizeOf3, Try.sizeOf4, Try.sizeOf9]⟩, ⟨Try.t128, _, info_of Try.type128, rfl, rfl, rfl, rfl⟩, rfl, rfl, by decide, trivial⟩
def ti136 : TI := ⟨.struct [(0, 22, 1), (1, 3, 1), (2, 3, 1)], 3, 40, [.nil, .int .i64 0, .int .i64 0], .none⟩
theorem ti136_ok : ti136.ok Try.prog 136 := ⟨⟨_, Try.underlying136, rfl, fun w => by simp [Try.sizeOf22, Try.sizeOf3]⟩, ⟨Try.t136, _, info_of Try.type136, rfl, rfl, rfl, rfl⟩, rfl, rfl, by decide, trivial⟩
def ti139 : TI := ⟨.int .u64, 1, 8, [.int .u64 0], .ints .u64⟩
theorem ti139_ok : ti139.ok Try.prog 139 := ⟨Try.underlying139, ⟨Try.t139, _, info_of Try.type139, rfl, rfl, rfl, rfl⟩, rfl, rfl, by decide, ⟨rfl, rfl⟩⟩
def ti161 : TI := ⟨.slice 31, 1, 24, [.nil], .none⟩
theorem ti161_ok : ti161.ok Try.prog 161 := ⟨Try.underlying161, ⟨Try.t161, _, info_of Try.type161, rfl, rfl, rfl, rfl⟩, rfl, rfl, by decide, trivial⟩
def ti163 : TI := ⟨.arr 4 3, 4, 32, [.int .i64 0, .int .i64 0, .int .i64 0, .int .i64 0], .none⟩
theorem ti163_ok : ti163.ok Try.prog 163 := ⟨Try.underlying163, ⟨Try.t163, _, info_of Try.type163, rfl, rfl, rfl, rfl⟩, rfl, rfl, by decide, trivial⟩
def ti173 : TI := ⟨.arr 3 3, 3, 24, [.int .i64 0, .int .i64 0, .int .i64 0], .none⟩
theorem ti173_ok : ti173.ok Try.prog 173 := ⟨Try.underlying173, ⟨Try.t173, _, info_of Try.type173, rfl, rfl, rfl, rfl⟩, rfl, rfl, by decide, trivial⟩
def ti174 : TI := ⟨.arr 6 173, 18, 144, [.int .i64 0, .int .i64 0, .int .i64 0, .int .i64 0, .int .i64 0, .int .i64 0, .int .i64 0, .int .i64 0, .int .i64 0, .int .i64 0, .int .i64 0, .int .i64 0, .int .i64 0, .int .i64 0, .int .i64 0, .int .i64 0, .int .i64 0, .int .i64 0], .none⟩
theorem ti174_ok : ti174.ok Try.prog 174 := ⟨Try.underlying174, ⟨Try.t174, _, info_of Try.type174, rfl, rfl, rfl, rfl⟩, rfl, rfl, by decide, trivial⟩
def T : Nat → Option TI := lkT [(3, ti3), (4, ti4), (9, ti9), (5, ti5), (22, ti22), (25, ti25), (29, ti29), (31, ti31), (35, ti35), (42, ti42), (47, ti47), (51, ti51), (53, ti53), (55, ti55), (59, ti59), (100, ti100), (128, ti128), (136, ti136), (139, ti139), (161, ti161), (163, ti163), (173, ti173), (174, ti174)]
theorem hT : TOk Try.prog T := lkT_all (by
 intro p hp
 simp only [List.mem_cons, List.not_mem_nil, or_false] at hp
 rcases hp with rfl | rfl | rfl | rfl | rfl | rfl | rfl | rfl | rfl | rfl | rfl | rfl | rfl | rfl | rfl | rfl | rfl | rfl | rfl | rfl | rfl | rfl | rfl
 ·
  exact ti3_ok
 ·
  exact ti4_ok
 ·
  exact ti9_ok
 ·
  exact ti5_ok
 ·
  exact ti22_ok
 ·
  exact ti25_ok
 ·
  exact ti29_ok
 ·
  exact ti31_ok
 ·
  exact ti35_ok
 ·
  exact ti42_ok
 ·
  exact ti47_ok
 ·
  exact ti51_ok
 ·
  exact ti53_ok
 ·
  exact ti55_ok
 ·
  exact ti59_ok
 ·
  exact ti100_ok
 ·
  exact ti128_ok
 ·
  exact ti136_ok
 ·
  exact ti139_ok
 ·
  exact ti161_ok
 ·
  exact ti163_ok
 ·
  exact ti173_ok
 ·
  exact ti174_ok)
theorem hm : Try.prog.follows .mixedOrders = true := by kernel_rfl
theorem eqA25 (d : Nat) (w : World) (x0 y0 : Int) (x1 y1 : Int) (x2 y2 : ByteArray) : (Op.equalIn (d + 2) 25 (.agg #[.int .i64 x0, .int .i64 x1, .string x2]) (.agg #[.int .i64 y0, .int .i64 y1, .string y2])).run Try.prog w = .ok ((x0 == y0) && ((x1 == y1) && (x2.toList == y2.toList))) w := by
 refine eqA_of Try.underlying25 (by kernel_rfl) ?_
 refine eqf_cons (by rfl) (by go_simp; rfl) (by go_simp; rfl) (by go_simp) ?_
 refine eqf_cons (by rfl) (by go_simp; rfl) (by go_simp; rfl) (by go_simp) ?_
 exact eqf_last (by rfl) (by go_simp; rfl) (by go_simp; rfl) (by go_simp)
theorem eq_t25 {x0 y0 : Int} {x1 y1 : Int} {x2 y2 : ByteArray} : EqT Try.prog 25 [.int .i64 x0, .int .i64 x1, .str x2] [.int .i64 y0, .int .i64 y1, .str y2] ((x0 == y0) && ((x1 == y1) && (x2.toList == y2.toList))) := ⟨by kernel_rfl, rfl, rfl, fun w => eqA25 9998 w _ _ _ _ _ _⟩
end Go.Proofs.Ytjfkbpgdghijfaa.A
