/- The types of the program, as the abstract logic reads them. Written by a program of this session. Conditions: none. -/
import Derived.Test.YtgmcephkajhfjaaGreatDFnInOrder
import Derived.Test.YtgmcephkajhfjaaGreatRows
import Derived.KernelRfl
namespace Go.Proofs.YtgmcephkajhfjaaGreat.A
open Go Go.Proofs Go.Proofs.YtgmcephkajhfjaaGreatAL Go.RowKit
set_option linter.unusedVariables false
set_option linter.unusedSimpArgs false
def eByteArray (x : ByteArray) : List SV := [.str x]
def rByteArray : List SV → Option ByteArray
 | [x0] => (match gS x0 with | some a0 => some a0 | _ => none)
 | _ => none
abbrev cByteArray : Codec := ⟨ByteArray, dByteArray, 1, eByteArray, rByteArray⟩
theorem cByteArray_ok : cByteArray.ok := by
 refine ⟨fun _ => rfl, by decide, fun cs x h => ?_⟩
 change rByteArray cs = some x at h
 unfold rByteArray at h
 split at h
 ·
  split at h
  ·
   cases h
   refine ⟨rfl, fun j y hy => ?_⟩
   change (eByteArray _)[j]? = some y at hy
   rcases j with _ | _
   ·
    cases hy; exact ⟨_, rfl, gS_rep (by assumption)⟩
   ·
    simp [eByteArray] at hy
  ·
   cases h
 ·
  cases h
theorem cByteArray_cov : Covers [.str ⟨#[]⟩] (cByteArray.enc cByteArray.d) := by
 intro j y hy
 change (eByteArray _)[j]? = some y at hy
 rcases j with _ | _
 ·
  cases hy; exact ⟨_, rfl, fun _ _ _ h => h⟩
 ·
  simp [eByteArray] at hy
theorem cByteArray_id (l : List ByteArray) : (l.filterMap fun y => cByteArray.dec (cByteArray.enc y)) = l := by
 rw [show (fun y => cByteArray.dec (cByteArray.enc y)) = some from funext fun y => rfl]; exact List.filterMap_some
def ePacket (x : Packet) : List SV := [.int .i64 x.Seq, .bool x.First, .bool x.Last, .str x.Bytes]
def rPacket : List SV → Option Packet
 | [x0, x1, x2, x3] => (match gI .i64 x0, gB x1, gB x2, gS x3 with | some a0, some a1, some a2, some a3 => some ⟨a0, a1, a2, a3⟩ | _, _, _, _ => none)
 | _ => none
abbrev cPacket : Codec := ⟨Packet, dPacket, 4, ePacket, rPacket⟩
theorem cPacket_ok : cPacket.ok := by
 refine ⟨fun _ => rfl, by decide, fun cs x h => ?_⟩
 change rPacket cs = some x at h
 unfold rPacket at h
 split at h
 ·
  split at h
  ·
   cases h
   refine ⟨rfl, fun j y hy => ?_⟩
   change (ePacket _)[j]? = some y at hy
   rcases j with _ | _ | _ | _ | _
   ·
    cases hy; exact ⟨_, rfl, gI_rep (by assumption)⟩
   ·
    cases hy; exact ⟨_, rfl, gB_rep (by assumption)⟩
   ·
    cases hy; exact ⟨_, rfl, gB_rep (by assumption)⟩
   ·
    cases hy; exact ⟨_, rfl, gS_rep (by assumption)⟩
   ·
    simp [ePacket] at hy
  ·
   cases h
 ·
  cases h
theorem cPacket_cov : Covers [.int .i64 0, .bool false, .bool false, .str ⟨#[]⟩] (cPacket.enc cPacket.d) := by
 intro j y hy
 change (ePacket _)[j]? = some y at hy
 rcases j with _ | _ | _ | _ | _
 ·
  cases hy; exact ⟨_, rfl, fun _ _ _ h => h⟩
 ·
  cases hy; exact ⟨_, rfl, fun _ _ _ h => h⟩
 ·
  cases hy; exact ⟨_, rfl, fun _ _ _ h => h⟩
 ·
  cases hy; exact ⟨_, rfl, fun _ _ _ h => h⟩
 ·
  simp [ePacket] at hy
theorem cPacket_id (l : List Packet) : (l.filterMap fun y => cPacket.dec (cPacket.enc y)) = l := by
 rw [show (fun y => cPacket.dec (cPacket.enc y)) = some from funext fun y => rfl]; exact List.filterMap_some
def eSquare (x : Square) : List SV := [.int .i64 x.Kind, .int .i64 x.Mode, .int .i64 x.Dx, .int .i64 x.Dy, .ints .i64 x.Levels]
def rSquare : List SV → Option Square
 | [x0, x1, x2, x3, x4] => (match gI .i64 x0, gI .i64 x1, gI .i64 x2, gI .i64 x3, gL .i64 x4 with | some a0, some a1, some a2, some a3, some a4 => some ⟨a0, a1, a2, a3, a4⟩ | _, _, _, _, _ => none)
 | _ => none
abbrev cSquare : Codec := ⟨Square, dSquare, 5, eSquare, rSquare⟩
theorem cSquare_ok : cSquare.ok := by
 refine ⟨fun _ => rfl, by decide, fun cs x h => ?_⟩
 change rSquare cs = some x at h
 unfold rSquare at h
 split at h
 ·
  split at h
  ·
   cases h
   refine ⟨rfl, fun j y hy => ?_⟩
   change (eSquare _)[j]? = some y at hy
   rcases j with _ | _ | _ | _ | _ | _
   ·
    cases hy; exact ⟨_, rfl, gI_rep (by assumption)⟩
   ·
    cases hy; exact ⟨_, rfl, gI_rep (by assumption)⟩
   ·
    cases hy; exact ⟨_, rfl, gI_rep (by assumption)⟩
   ·
    cases hy; exact ⟨_, rfl, gI_rep (by assumption)⟩
   ·
    cases hy; exact ⟨_, rfl, gL_rep (by assumption)⟩
   ·
    simp [eSquare] at hy
  ·
   cases h
 ·
  cases h
theorem cSquare_cov : Covers [.int .i64 0, .int .i64 0, .int .i64 0, .int .i64 0, .nil] (cSquare.enc cSquare.d) := by
 intro j y hy
 change (eSquare _)[j]? = some y at hy
 rcases j with _ | _ | _ | _ | _ | _
 ·
  cases hy; exact ⟨_, rfl, fun _ _ _ h => h⟩
 ·
  cases hy; exact ⟨_, rfl, fun _ _ _ h => h⟩
 ·
  cases hy; exact ⟨_, rfl, fun _ _ _ h => h⟩
 ·
  cases hy; exact ⟨_, rfl, fun _ _ _ h => h⟩
 ·
  cases hy; exact ⟨_, rfl, gL_rep (k := .i64) rfl⟩
 ·
  simp [eSquare] at hy
theorem cSquare_id (l : List Square) : (l.filterMap fun y => cSquare.dec (cSquare.enc y)) = l := by
 rw [show (fun y => cSquare.dec (cSquare.enc y)) = some from funext fun y => rfl]; exact List.filterMap_some
def ti3 : TI := ⟨.int .i64, 1, 8, [.int .i64 0], .ints .i64⟩
theorem ti3_ok : ti3.ok Tryz.prog 3 := ⟨Tryz.underlying3, ⟨Tryz.t3, _, info_of Tryz.type3, rfl, rfl, rfl, rfl⟩, rfl, rfl, by decide, ⟨rfl, rfl⟩⟩
def ti4 : TI := ⟨.bool, 1, 1, [.bool false], .none⟩
theorem ti4_ok : ti4.ok Tryz.prog 4 := ⟨Tryz.underlying4, ⟨Tryz.t4, _, info_of Tryz.type4, rfl, rfl, rfl, rfl⟩, rfl, rfl, by decide, trivial⟩
def ti5 : TI := ⟨.int .u8, 1, 1, [.int .u8 0], .ints .u8⟩
theorem ti5_ok : ti5.ok Tryz.prog 5 := ⟨Tryz.underlying5, ⟨Tryz.t5, _, info_of Tryz.type5, rfl, rfl, rfl, rfl⟩, rfl, rfl, by decide, ⟨rfl, rfl⟩⟩
def ti9 : TI := ⟨.str, 1, 16, [.str ⟨#[]⟩], .row cByteArray⟩
theorem ti9_ok : ti9.ok Tryz.prog 9 := ⟨Tryz.underlying9, ⟨Tryz.t9, _, info_of Tryz.type9, rfl, rfl, rfl, rfl⟩, rfl, rfl, by decide, ⟨cByteArray_ok, rfl, cByteArray_cov⟩⟩
def ti22 : TI := ⟨.slice 5, 1, 24, [.nil], .none⟩
theorem ti22_ok : ti22.ok Tryz.prog 22 := ⟨Tryz.underlying22, ⟨Tryz.t22, _, info_of Tryz.type22, rfl, rfl, rfl, rfl⟩, rfl, rfl, by decide, trivial⟩
def ti24 : TI := ⟨.slice 33, 1, 24, [.nil], .none⟩
theorem ti24_ok : ti24.ok Tryz.prog 24 := ⟨Tryz.underlying24, ⟨Tryz.t24, _, info_of Tryz.type24, rfl, rfl, rfl, rfl⟩, rfl, rfl, by decide, trivial⟩
def ti26 : TI := ⟨.slice 3, 1, 24, [.nil], .none⟩
theorem ti26_ok : ti26.ok Tryz.prog 26 := ⟨Tryz.underlying26, ⟨Tryz.t26, _, info_of Tryz.type26, rfl, rfl, rfl, rfl⟩, rfl, rfl, by decide, trivial⟩
def ti29 : TI := ⟨.struct [(0, 4, 1), (1, 3, 1), (2, 3, 1), (3, 24, 1), (4, 3, 1), (5, 3, 1), (6, 3, 1), (7, 3, 1), (8, 3, 1)], 9, 88, [.bool false, .int .i64 0, .int .i64 0, .nil, .int .i64 0, .int .i64 0, .int .i64 0, .int .i64 0, .int .i64 0], .none⟩
theorem ti29_ok : ti29.ok Tryz.prog 29 := ⟨⟨_, Tryz.underlying29, rfl, fun w => by simp [Tryz.sizeOf24, Tryz.sizeOf3, Tryz.sizeOf4]⟩, ⟨Tryz.t29, _, info_of Tryz.type29, rfl, rfl, rfl, rfl⟩, rfl, rfl, by decide, trivial⟩
def ti33 : TI := ⟨.struct [(0, 3, 1), (1, 4, 1), (2, 4, 1), (3, 9, 1)], 4, 32, [.int .i64 0, .bool false, .bool false, .str ⟨#[]⟩], .row cPacket⟩
theorem ti33_ok : ti33.ok Tryz.prog 33 := ⟨⟨_, Tryz.underlying33, rfl, fun w => by simp [Tryz.sizeOf3, Tryz.sizeOf4, Tryz.sizeOf9]⟩, ⟨Tryz.t33, _, info_of Tryz.type33, rfl, rfl, rfl, rfl⟩, rfl, rfl, by decide, ⟨cPacket_ok, rfl, cPacket_cov⟩⟩
def ti40 : TI := ⟨.slice 9, 1, 24, [.nil], .none⟩
theorem ti40_ok : ti40.ok Tryz.prog 40 := ⟨Tryz.underlying40, ⟨Tryz.t40, _, info_of Tryz.type40, rfl, rfl, rfl, rfl⟩, rfl, rfl, by decide, trivial⟩
def ti62 : TI := ⟨.int .u64, 1, 8, [.int .u64 0], .ints .u64⟩
theorem ti62_ok : ti62.ok Tryz.prog 62 := ⟨Tryz.underlying62, ⟨Tryz.t62, _, info_of Tryz.type62, rfl, rfl, rfl, rfl⟩, rfl, rfl, by decide, ⟨rfl, rfl⟩⟩
def ti66 : TI := ⟨.struct [(0, 3, 1), (1, 3, 1), (2, 26, 1), (3, 26, 1)], 4, 64, [.int .i64 0, .int .i64 0, .nil, .nil], .none⟩
theorem ti66_ok : ti66.ok Tryz.prog 66 := ⟨⟨_, Tryz.underlying66, rfl, fun w => by simp [Tryz.sizeOf26, Tryz.sizeOf3]⟩, ⟨Tryz.t66, _, info_of Tryz.type66, rfl, rfl, rfl, rfl⟩, rfl, rfl, by decide, trivial⟩
def ti68 : TI := ⟨.struct [(0, 3, 1), (1, 4, 1), (2, 4, 1), (3, 4, 1)], 4, 16, [.int .i64 0, .bool false, .bool false, .bool false], .none⟩
theorem ti68_ok : ti68.ok Tryz.prog 68 := ⟨⟨_, Tryz.underlying68, rfl, fun w => by simp [Tryz.sizeOf3, Tryz.sizeOf4]⟩, ⟨Tryz.t68, _, info_of Tryz.type68, rfl, rfl, rfl, rfl⟩, rfl, rfl, by decide, trivial⟩
def ti70 : TI := ⟨.struct [(0, 3, 1), (1, 3, 1), (2, 3, 1)], 3, 24, [.int .i64 0, .int .i64 0, .int .i64 0], .none⟩
theorem ti70_ok : ti70.ok Tryz.prog 70 := ⟨⟨_, Tryz.underlying70, rfl, fun w => by simp [Tryz.sizeOf3]⟩, ⟨Tryz.t70, _, info_of Tryz.type70, rfl, rfl, rfl, rfl⟩, rfl, rfl, by decide, trivial⟩
def ti72 : TI := ⟨.struct [(0, 3, 1), (1, 3, 1), (2, 9, 1)], 3, 32, [.int .i64 0, .int .i64 0, .str ⟨#[]⟩], .none⟩
theorem ti72_ok : ti72.ok Tryz.prog 72 := ⟨⟨_, Tryz.underlying72, rfl, fun w => by simp [Tryz.sizeOf3, Tryz.sizeOf9]⟩, ⟨Tryz.t72, _, info_of Tryz.type72, rfl, rfl, rfl, rfl⟩, rfl, rfl, by decide, trivial⟩
def ti74 : TI := ⟨.struct [(0, 66, 4), (4, 68, 4), (8, 70, 3), (11, 3, 1), (12, 3, 1), (13, 3, 1), (14, 3, 1), (15, 4, 1), (16, 72, 3)], 19, 176, [.int .i64 0, .int .i64 0, .nil, .nil, .int .i64 0, .bool false, .bool false, .bool false, .int .i64 0, .int .i64 0, .int .i64 0, .int .i64 0, .int .i64 0, .int .i64 0, .int .i64 0, .bool false, .int .i64 0, .int .i64 0, .str ⟨#[]⟩], .none⟩
theorem ti74_ok : ti74.ok Tryz.prog 74 := ⟨⟨_, Tryz.underlying74, rfl, fun w => by simp [Tryz.sizeOf3, Tryz.sizeOf4, Tryz.sizeOf66, Tryz.sizeOf68, Tryz.sizeOf70, Tryz.sizeOf72]⟩, ⟨Tryz.t74, _, info_of Tryz.type74, rfl, rfl, rfl, rfl⟩, rfl, rfl, by decide, trivial⟩
def ti79 : TI := ⟨.struct [(0, 22, 1), (1, 3, 1), (2, 3, 1)], 3, 40, [.nil, .int .i64 0, .int .i64 0], .none⟩
theorem ti79_ok : ti79.ok Tryz.prog 79 := ⟨⟨_, Tryz.underlying79, rfl, fun w => by simp [Tryz.sizeOf22, Tryz.sizeOf3]⟩, ⟨Tryz.t79, _, info_of Tryz.type79, rfl, rfl, rfl, rfl⟩, rfl, rfl, by decide, trivial⟩
def ti105 : TI := ⟨.struct [(0, 4, 1), (1, 3, 1), (2, 4, 1), (3, 4, 1)], 4, 24, [.bool false, .int .i64 0, .bool false, .bool false], .none⟩
theorem ti105_ok : ti105.ok Tryz.prog 105 := ⟨⟨_, Tryz.underlying105, rfl, fun w => by simp [Tryz.sizeOf3, Tryz.sizeOf4]⟩, ⟨Tryz.t105, _, info_of Tryz.type105, rfl, rfl, rfl, rfl⟩, rfl, rfl, by decide, trivial⟩
def ti106 : TI := ⟨.slice 124, 1, 24, [.nil], .none⟩
theorem ti106_ok : ti106.ok Tryz.prog 106 := ⟨Tryz.underlying106, ⟨Tryz.t106, _, info_of Tryz.type106, rfl, rfl, rfl, rfl⟩, rfl, rfl, by decide, trivial⟩
def ti111 : TI := ⟨.struct [(0, 3, 1), (1, 3, 1), (2, 3, 1)], 3, 24, [.int .i64 0, .int .i64 0, .int .i64 0], .none⟩
theorem ti111_ok : ti111.ok Tryz.prog 111 := ⟨⟨_, Tryz.underlying111, rfl, fun w => by simp [Tryz.sizeOf3]⟩, ⟨Tryz.t111, _, info_of Tryz.type111, rfl, rfl, rfl, rfl⟩, rfl, rfl, by decide, trivial⟩
def ti124 : TI := ⟨.struct [(0, 3, 1), (1, 3, 1), (2, 3, 1), (3, 3, 1), (4, 26, 1)], 5, 56, [.int .i64 0, .int .i64 0, .int .i64 0, .int .i64 0, .nil], .row cSquare⟩
theorem ti124_ok : ti124.ok Tryz.prog 124 := ⟨⟨_, Tryz.underlying124, rfl, fun w => by simp [Tryz.sizeOf26, Tryz.sizeOf3]⟩, ⟨Tryz.t124, _, info_of Tryz.type124, rfl, rfl, rfl, rfl⟩, rfl, rfl, by decide, ⟨cSquare_ok, rfl, cSquare_cov⟩⟩
def ti151 : TI := ⟨.struct [(0, 26, 1), (1, 26, 1), (2, 3, 1)], 3, 56, [.nil, .nil, .int .i64 0], .none⟩
theorem ti151_ok : ti151.ok Tryz.prog 151 := ⟨⟨_, Tryz.underlying151, rfl, fun w => by simp [Tryz.sizeOf26, Tryz.sizeOf3]⟩, ⟨Tryz.t151, _, info_of Tryz.type151, rfl, rfl, rfl, rfl⟩, rfl, rfl, by decide, trivial⟩
def T : Nat → Option TI := lkT [(3, ti3), (4, ti4), (9, ti9), (5, ti5), (22, ti22), (24, ti24), (26, ti26), (29, ti29), (33, ti33), (40, ti40), (62, ti62), (66, ti66), (68, ti68), (70, ti70), (72, ti72), (74, ti74), (79, ti79), (105, ti105), (106, ti106), (111, ti111), (124, ti124), (151, ti151)]
theorem hT : TOk Tryz.prog T := lkT_all (by
 intro p hp
 simp only [List.mem_cons, List.not_mem_nil, or_false] at hp
 rcases hp with rfl | rfl | rfl | rfl | rfl | rfl | rfl | rfl | rfl | rfl | rfl | rfl | rfl | rfl | rfl | rfl | rfl | rfl | rfl | rfl | rfl | rfl
 ·
  exact ti3_ok
 ·
  exact ti4_ok
 ·
  exact ti9_ok
 ·
  exact ti5_ok
 ·
  exact ti22_ok
 ·
  exact ti24_ok
 ·
  exact ti26_ok
 ·
  exact ti29_ok
 ·
  exact ti33_ok
 ·
  exact ti40_ok
 ·
  exact ti62_ok
 ·
  exact ti66_ok
 ·
  exact ti68_ok
 ·
  exact ti70_ok
 ·
  exact ti72_ok
 ·
  exact ti74_ok
 ·
  exact ti79_ok
 ·
  exact ti105_ok
 ·
  exact ti106_ok
 ·
  exact ti111_ok
 ·
  exact ti124_ok
 ·
  exact ti151_ok)
theorem hm : Tryz.prog.follows .mixedOrders = true := by kernel_rfl
theorem eqA33 (d : Nat) (w : World) (x0 y0 : Int) (x1 y1 : Bool) (x2 y2 : Bool) (x3 y3 : ByteArray) : (Op.equalIn (d + 2) 33 (.agg #[.int .i64 x0, .bool x1, .bool x2, .string x3]) (.agg #[.int .i64 y0, .bool y1, .bool y2, .string y3])).run Tryz.prog w = .ok ((x0 == y0) && ((x1 == y1) && ((x2 == y2) && (x3.toList == y3.toList)))) w := by
 refine eqA_of Tryz.underlying33 (by kernel_rfl) ?_
 refine eqf_cons (by rfl) (by go_simp; rfl) (by go_simp; rfl) (by go_simp) ?_
 refine eqf_cons (by rfl) (by go_simp; rfl) (by go_simp; rfl) (by go_simp) ?_
 refine eqf_cons (by rfl) (by go_simp; rfl) (by go_simp; rfl) (by go_simp) ?_
 exact eqf_last (by rfl) (by go_simp; rfl) (by go_simp; rfl) (by go_simp)
theorem eq_t33 {x0 y0 : Int} {x1 y1 : Bool} {x2 y2 : Bool} {x3 y3 : ByteArray} : EqT Tryz.prog 33 [.int .i64 x0, .bool x1, .bool x2, .str x3] [.int .i64 y0, .bool y1, .bool y2, .str y3] ((x0 == y0) && ((x1 == y1) && ((x2 == y2) && (x3.toList == y3.toList)))) := ⟨by kernel_rfl, rfl, rfl, fun w => eqA33 9998 w _ _ _ _ _ _ _ _⟩
end Go.Proofs.YtgmcephkajhfjaaGreat.A
