/- The types of the program, as the abstract logic reads them. Written by a program of this session. Conditions: none. -/
import Derived.Test.YtplmeeookgefnaaDFnExactSourceSets
import Derived.Test.YtplmeeookgefnaaRows
import Derived.KernelRfl
namespace Go.Proofs.Ytplmeeookgefnaa.A
open Go Go.Proofs Go.Proofs.YtplmeeookgefnaaAL Go.RowKit
set_option linter.unusedVariables false
set_option linter.unusedSimpArgs false
def eByteArray (x : ByteArray) : List SV := [.str x]
def rByteArray : List SV → Option ByteArray
  | [x0] => (match gS x0 with | some a0 => some a0 | _ => none)
  | _ => none
abbrev cByteArray : Codec := ⟨ByteArray, dByteArray, 1, eByteArray, rByteArray⟩
theorem cByteArray_ok : cByteArray.ok := by
  refine ⟨fun _ => rfl, by decide, fun cs x h => ?_⟩
  change rByteArray cs = some x at h
  unfold rByteArray at h
  split at h
  · split at h
    · cases h
      refine ⟨rfl, fun j y hy => ?_⟩
      change (eByteArray _)[j]? = some y at hy
      rcases j with _ | _
      · cases hy; exact ⟨_, rfl, gS_rep (by assumption)⟩
      · simp [eByteArray] at hy
    · cases h
  · cases h
theorem cByteArray_cov : Covers [.str ⟨#[]⟩] (cByteArray.enc cByteArray.d) := by
  intro j y hy
  change (eByteArray _)[j]? = some y at hy
  rcases j with _ | _
  · cases hy; exact ⟨_, rfl, fun _ _ _ h => h⟩
  · simp [eByteArray] at hy
theorem cByteArray_id (l : List ByteArray) : (l.filterMap fun y => cByteArray.dec (cByteArray.enc y)) = l := by
  rw [show (fun y => cByteArray.dec (cByteArray.enc y)) = some from funext fun y => rfl]; exact List.filterMap_some
def eLInti64 (x : (List Int)) : List SV := [.ints .i64 x]
def rLInti64 : List SV → Option (List Int)
  | [x0] => (match gL .i64 x0 with | some a0 => some a0 | _ => none)
  | _ => none
abbrev cLInti64 : Codec := ⟨(List Int), dLInti64, 1, eLInti64, rLInti64⟩
theorem cLInti64_ok : cLInti64.ok := by
  refine ⟨fun _ => rfl, by decide, fun cs x h => ?_⟩
  change rLInti64 cs = some x at h
  unfold rLInti64 at h
  split at h
  · split at h
    · cases h
      refine ⟨rfl, fun j y hy => ?_⟩
      change (eLInti64 _)[j]? = some y at hy
      rcases j with _ | _
      · cases hy; exact ⟨_, rfl, gL_rep (by assumption)⟩
      · simp [eLInti64] at hy
    · cases h
  · cases h
theorem cLInti64_cov : Covers [.nil] (cLInti64.enc cLInti64.d) := by
  intro j y hy
  change (eLInti64 _)[j]? = some y at hy
  rcases j with _ | _
  · cases hy; exact ⟨_, rfl, gL_rep (k := .i64) rfl⟩
  · simp [eLInti64] at hy
theorem cLInti64_id (l : List (List Int)) : (l.filterMap fun y => cLInti64.dec (cLInti64.enc y)) = l := by
  rw [show (fun y => cLInti64.dec (cLInti64.enc y)) = some from funext fun y => rfl]; exact List.filterMap_some
def ti3 : TI := ⟨.int .i64, 1, 8, [.int .i64 0], .ints .i64⟩
theorem ti3_ok : ti3.ok Try.prog 3 := ⟨Try.underlying3, ⟨Try.t3, _, info_of Try.type3, rfl, rfl, rfl, rfl⟩, rfl, rfl, by decide, ⟨rfl, rfl⟩⟩
def ti4 : TI := ⟨.bool, 1, 1, [.bool false], .none⟩
theorem ti4_ok : ti4.ok Try.prog 4 := ⟨Try.underlying4, ⟨Try.t4, _, info_of Try.type4, rfl, rfl, rfl, rfl⟩, rfl, rfl, by decide, trivial⟩
def ti5 : TI := ⟨.int .u8, 1, 1, [.int .u8 0], .ints .u8⟩
theorem ti5_ok : ti5.ok Try.prog 5 := ⟨Try.underlying5, ⟨Try.t5, _, info_of Try.type5, rfl, rfl, rfl, rfl⟩, rfl, rfl, by decide, ⟨rfl, rfl⟩⟩
def ti9 : TI := ⟨.str, 1, 16, [.str ⟨#[]⟩], .row cByteArray⟩
theorem ti9_ok : ti9.ok Try.prog 9 := ⟨Try.underlying9, ⟨Try.t9, _, info_of Try.type9, rfl, rfl, rfl, rfl⟩, rfl, rfl, by decide, ⟨cByteArray_ok, rfl, cByteArray_cov⟩⟩
def ti22 : TI := ⟨.slice 5, 1, 24, [.nil], .none⟩
theorem ti22_ok : ti22.ok Try.prog 22 := ⟨Try.underlying22, ⟨Try.t22, _, info_of Try.type22, rfl, rfl, rfl, rfl⟩, rfl, rfl, by decide, trivial⟩
def ti25 : TI := ⟨.struct [(0, 3, 1), (1, 3, 1), (2, 3, 1)], 3, 24, [.int .i64 0, .int .i64 0, .int .i64 0], .none⟩
theorem ti25_ok : ti25.ok Try.prog 25 := ⟨⟨_, Try.underlying25, rfl, fun w => by simp [Try.sizeOf3]⟩, ⟨Try.t25, _, info_of Try.type25, rfl, rfl, rfl, rfl⟩, rfl, rfl, by decide, trivial⟩
def ti26 : TI := ⟨.slice 3, 1, 24, [.nil], .row cLInti64⟩
theorem ti26_ok : ti26.ok Try.prog 26 := ⟨Try.underlying26, ⟨Try.t26, _, info_of Try.type26, rfl, rfl, rfl, rfl⟩, rfl, rfl, by decide, ⟨cLInti64_ok, rfl, cLInti64_cov⟩⟩
def ti35 : TI := ⟨.struct [(0, 3, 1), (1, 3, 1), (2, 9, 1)], 3, 32, [.int .i64 0, .int .i64 0, .str ⟨#[]⟩], .none⟩
theorem ti35_ok : ti35.ok Try.prog 35 := ⟨⟨_, Try.underlying35, rfl, fun w => by simp [Try.sizeOf3, Try.sizeOf9]⟩, ⟨Try.t35, _, info_of Try.type35, rfl, rfl, rfl, rfl⟩, rfl, rfl, by decide, trivial⟩
def ti44 : TI := ⟨.struct [(0, 3, 1), (1, 4, 1), (2, 4, 1), (3, 4, 1)], 4, 16, [.int .i64 0, .bool false, .bool false, .bool false], .none⟩
theorem ti44_ok : ti44.ok Try.prog 44 := ⟨⟨_, Try.underlying44, rfl, fun w => by simp [Try.sizeOf3, Try.sizeOf4]⟩, ⟨Try.t44, _, info_of Try.type44, rfl, rfl, rfl, rfl⟩, rfl, rfl, by decide, trivial⟩
def ti45 : TI := ⟨.struct [(0, 3, 1), (1, 3, 1), (2, 3, 1)], 3, 24, [.int .i64 0, .int .i64 0, .int .i64 0], .none⟩
theorem ti45_ok : ti45.ok Try.prog 45 := ⟨⟨_, Try.underlying45, rfl, fun w => by simp [Try.sizeOf3]⟩, ⟨Try.t45, _, info_of Try.type45, rfl, rfl, rfl, rfl⟩, rfl, rfl, by decide, trivial⟩
def ti47 : TI := ⟨.struct [(0, 3, 1), (1, 3, 1), (2, 26, 1), (3, 26, 1)], 4, 64, [.int .i64 0, .int .i64 0, .nil, .nil], .none⟩
theorem ti47_ok : ti47.ok Try.prog 47 := ⟨⟨_, Try.underlying47, rfl, fun w => by simp [Try.sizeOf26, Try.sizeOf3]⟩, ⟨Try.t47, _, info_of Try.type47, rfl, rfl, rfl, rfl⟩, rfl, rfl, by decide, trivial⟩
def ti48 : TI := ⟨.struct [(0, 3, 1), (1, 4, 1), (2, 4, 1), (3, 4, 1)], 4, 16, [.int .i64 0, .bool false, .bool false, .bool false], .none⟩
theorem ti48_ok : ti48.ok Try.prog 48 := ⟨⟨_, Try.underlying48, rfl, fun w => by simp [Try.sizeOf3, Try.sizeOf4]⟩, ⟨Try.t48, _, info_of Try.type48, rfl, rfl, rfl, rfl⟩, rfl, rfl, by decide, trivial⟩
def ti50 : TI := ⟨.struct [(0, 47, 4), (4, 48, 4), (8, 25, 3), (11, 3, 1), (12, 3, 1), (13, 3, 1), (14, 3, 1), (15, 4, 1), (16, 35, 3)], 19, 176, [.int .i64 0, .int .i64 0, .nil, .nil, .int .i64 0, .bool false, .bool false, .bool false, .int .i64 0, .int .i64 0, .int .i64 0, .int .i64 0, .int .i64 0, .int .i64 0, .int .i64 0, .bool false, .int .i64 0, .int .i64 0, .str ⟨#[]⟩], .none⟩
theorem ti50_ok : ti50.ok Try.prog 50 := ⟨⟨_, Try.underlying50, rfl, fun w => by simp [Try.sizeOf25, Try.sizeOf3, Try.sizeOf35, Try.sizeOf4, Try.sizeOf47, Try.sizeOf48]⟩, ⟨Try.t50, _, info_of Try.type50, rfl, rfl, rfl, rfl⟩, rfl, rfl, by decide, trivial⟩
def ti60 : TI := ⟨.slice 9, 1, 24, [.nil], .none⟩
theorem ti60_ok : ti60.ok Try.prog 60 := ⟨Try.underlying60, ⟨Try.t60, _, info_of Try.type60, rfl, rfl, rfl, rfl⟩, rfl, rfl, by decide, trivial⟩
def ti103 : TI := ⟨.struct [(0, 3, 1), (1, 3, 1), (2, 26, 1), (3, 26, 1)], 4, 64, [.int .i64 0, .int .i64 0, .nil, .nil], .none⟩
theorem ti103_ok : ti103.ok Try.prog 103 := ⟨⟨_, Try.underlying103, rfl, fun w => by simp [Try.sizeOf26, Try.sizeOf3]⟩, ⟨Try.t103, _, info_of Try.type103, rfl, rfl, rfl, rfl⟩, rfl, rfl, by decide, trivial⟩
def ti104 : TI := ⟨.struct [(0, 3, 1), (1, 3, 1), (2, 9, 1)], 3, 32, [.int .i64 0, .int .i64 0, .str ⟨#[]⟩], .none⟩
theorem ti104_ok : ti104.ok Try.prog 104 := ⟨⟨_, Try.underlying104, rfl, fun w => by simp [Try.sizeOf3, Try.sizeOf9]⟩, ⟨Try.t104, _, info_of Try.type104, rfl, rfl, rfl, rfl⟩, rfl, rfl, by decide, trivial⟩
def ti106 : TI := ⟨.struct [(0, 103, 4), (4, 44, 4), (8, 45, 3), (11, 3, 1), (12, 3, 1), (13, 3, 1), (14, 3, 1), (15, 4, 1), (16, 104, 3)], 19, 176, [.int .i64 0, .int .i64 0, .nil, .nil, .int .i64 0, .bool false, .bool false, .bool false, .int .i64 0, .int .i64 0, .int .i64 0, .int .i64 0, .int .i64 0, .int .i64 0, .int .i64 0, .bool false, .int .i64 0, .int .i64 0, .str ⟨#[]⟩], .none⟩
theorem ti106_ok : ti106.ok Try.prog 106 := ⟨⟨_, Try.underlying106, rfl, fun w => by simp [Try.sizeOf103, Try.sizeOf104, Try.sizeOf3, Try.sizeOf4, Try.sizeOf44, Try.sizeOf45]⟩, ⟨Try.t106, _, info_of Try.type106, rfl, rfl, rfl, rfl⟩, rfl, rfl, by decide, trivial⟩
def ti225 : TI := ⟨.int .u64, 1, 8, [.int .u64 0], .ints .u64⟩
theorem ti225_ok : ti225.ok Try.prog 225 := ⟨Try.underlying225, ⟨Try.t225, _, info_of Try.type225, rfl, rfl, rfl, rfl⟩, rfl, rfl, by decide, ⟨rfl, rfl⟩⟩
def ti249 : TI := ⟨.slice 26, 1, 24, [.nil], .none⟩
theorem ti249_ok : ti249.ok Try.prog 249 := ⟨Try.underlying249, ⟨Try.t249, _, info_of Try.type249, rfl, rfl, rfl, rfl⟩, rfl, rfl, by decide, trivial⟩
def T : Nat → Option TI := lkT [(3, ti3), (4, ti4), (9, ti9), (5, ti5), (22, ti22), (25, ti25), (26, ti26), (35, ti35), (44, ti44), (45, ti45), (47, ti47), (48, ti48), (50, ti50), (60, ti60), (103, ti103), (104, ti104), (106, ti106), (225, ti225), (249, ti249)]
theorem hT : TOk Try.prog T := lkT_all (by
  intro p hp
  simp only [List.mem_cons, List.not_mem_nil, or_false] at hp
  rcases hp with rfl | rfl | rfl | rfl | rfl | rfl | rfl | rfl | rfl | rfl | rfl | rfl | rfl | rfl | rfl | rfl | rfl | rfl | rfl
  · exact ti3_ok
  · exact ti4_ok
  · exact ti9_ok
  · exact ti5_ok
  · exact ti22_ok
  · exact ti25_ok
  · exact ti26_ok
  · exact ti35_ok
  · exact ti44_ok
  · exact ti45_ok
  · exact ti47_ok
  · exact ti48_ok
  · exact ti50_ok
  · exact ti60_ok
  · exact ti103_ok
  · exact ti104_ok
  · exact ti106_ok
  · exact ti225_ok
  · exact ti249_ok)
theorem hm : Try.prog.follows .mixedOrders = true := by kernel_rfl
theorem eqA35 (d : Nat) (w : World) (x0 y0 : Int) (x1 y1 : Int) (x2 y2 : ByteArray) : (Op.equalIn (d + 2) 35 (.agg #[.int .i64 x0, .int .i64 x1, .string x2]) (.agg #[.int .i64 y0, .int .i64 y1, .string y2])).run Try.prog w = .ok ((x0 == y0) && ((x1 == y1) && (x2.toList == y2.toList))) w := by
  refine eqA_of Try.underlying35 (by kernel_rfl) ?_
  refine eqf_cons (by rfl) (by go_simp; rfl) (by go_simp; rfl) (by go_simp) ?_
  refine eqf_cons (by rfl) (by go_simp; rfl) (by go_simp; rfl) (by go_simp) ?_
  exact eqf_last (by rfl) (by go_simp; rfl) (by go_simp; rfl) (by go_simp)
theorem eq_t35 {x0 y0 : Int} {x1 y1 : Int} {x2 y2 : ByteArray} : EqT Try.prog 35 [.int .i64 x0, .int .i64 x1, .str x2] [.int .i64 y0, .int .i64 y1, .str y2] ((x0 == y0) && ((x1 == y1) && (x2.toList == y2.toList))) := ⟨by kernel_rfl, rfl, rfl, fun w => eqA35 9998 w _ _ _ _ _ _⟩
end Go.Proofs.Ytplmeeookgefnaa.A
