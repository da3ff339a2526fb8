/- The types of the program, as the abstract logic reads them. Written by a program of this session. Conditions: none. -/
import Derived.Test.YtplmeeookgefnaaDFnExactPictureOf
import Derived.Test.YtplmeeookgefnaaRows
import Derived.KernelRfl
namespace Go.Proofs.Ytplmeeookgefnaa.A
open Go Go.Proofs Go.Proofs.YtplmeeookgefnaaAL Go.RowKit
set_option linter.unusedVariables false
set_option linter.unusedSimpArgs false
def eByteArray (x : ByteArray) : List SV := [.str x]
def rByteArray : List SV → Option ByteArray
  | [x0] => (match gS x0 with | some a0 => some a0 | _ => none)
  | _ => none
abbrev cByteArray : Codec := ⟨ByteArray, dByteArray, 1, eByteArray, rByteArray⟩
theorem cByteArray_ok : cByteArray.ok := by
  refine ⟨fun _ => rfl, by decide, fun cs x h => ?_⟩
  change rByteArray cs = some x at h
  unfold rByteArray at h
  split at h
  · split at h
    · cases h
      refine ⟨rfl, fun j y hy => ?_⟩
      change (eByteArray _)[j]? = some y at hy
      rcases j with _ | _
      · cases hy; exact ⟨_, rfl, gS_rep (by assumption)⟩
      · simp [eByteArray] at hy
    · cases h
  · cases h
theorem cByteArray_cov : Covers [.str ⟨#[]⟩] (cByteArray.enc cByteArray.d) := by
  intro j y hy
  change (eByteArray _)[j]? = some y at hy
  rcases j with _ | _
  · cases hy; exact ⟨_, rfl, fun _ _ _ h => h⟩
  · simp [eByteArray] at hy
theorem cByteArray_id (l : List ByteArray) : (l.filterMap fun y => cByteArray.dec (cByteArray.enc y)) = l := by
  rw [show (fun y => cByteArray.dec (cByteArray.enc y)) = some from funext fun y => rfl]; exact List.filterMap_some
def ePacket (x : Packet) : List SV := [.int .i64 x.Seq, .bool x.First, .bool x.Last, .str x.Bytes]
def rPacket : List SV → Option Packet
  | [x0, x1, x2, x3] => (match gI .i64 x0, gB x1, gB x2, gS x3 with | some a0, some a1, some a2, some a3 => some ⟨a0, a1, a2, a3⟩ | _, _, _, _ => none)
  | _ => none
abbrev cPacket : Codec := ⟨Packet, dPacket, 4, ePacket, rPacket⟩
theorem cPacket_ok : cPacket.ok := by
  refine ⟨fun _ => rfl, by decide, fun cs x h => ?_⟩
  change rPacket cs = some x at h
  unfold rPacket at h
  split at h
  · split at h
    · cases h
      refine ⟨rfl, fun j y hy => ?_⟩
      change (ePacket _)[j]? = some y at hy
      rcases j with _ | _ | _ | _ | _
      · cases hy; exact ⟨_, rfl, gI_rep (by assumption)⟩
      · cases hy; exact ⟨_, rfl, gB_rep (by assumption)⟩
      · cases hy; exact ⟨_, rfl, gB_rep (by assumption)⟩
      · cases hy; exact ⟨_, rfl, gS_rep (by assumption)⟩
      · simp [ePacket] at hy
    · cases h
  · cases h
theorem cPacket_cov : Covers [.int .i64 0, .bool false, .bool false, .str ⟨#[]⟩] (cPacket.enc cPacket.d) := by
  intro j y hy
  change (ePacket _)[j]? = some y at hy
  rcases j with _ | _ | _ | _ | _
  · cases hy; exact ⟨_, rfl, fun _ _ _ h => h⟩
  · cases hy; exact ⟨_, rfl, fun _ _ _ h => h⟩
  · cases hy; exact ⟨_, rfl, fun _ _ _ h => h⟩
  · cases hy; exact ⟨_, rfl, fun _ _ _ h => h⟩
  · simp [ePacket] at hy
theorem cPacket_id (l : List Packet) : (l.filterMap fun y => cPacket.dec (cPacket.enc y)) = l := by
  rw [show (fun y => cPacket.dec (cPacket.enc y)) = some from funext fun y => rfl]; exact List.filterMap_some
def ti3 : TI := ⟨.int .i64, 1, 8, [.int .i64 0], .ints .i64⟩
theorem ti3_ok : ti3.ok Try.prog 3 := ⟨Try.underlying3, ⟨Try.t3, _, info_of Try.type3, rfl, rfl, rfl, rfl⟩, rfl, rfl, by decide, ⟨rfl, rfl⟩⟩
def ti4 : TI := ⟨.bool, 1, 1, [.bool false], .none⟩
theorem ti4_ok : ti4.ok Try.prog 4 := ⟨Try.underlying4, ⟨Try.t4, _, info_of Try.type4, rfl, rfl, rfl, rfl⟩, rfl, rfl, by decide, trivial⟩
def ti5 : TI := ⟨.int .u8, 1, 1, [.int .u8 0], .ints .u8⟩
theorem ti5_ok : ti5.ok Try.prog 5 := ⟨Try.underlying5, ⟨Try.t5, _, info_of Try.type5, rfl, rfl, rfl, rfl⟩, rfl, rfl, by decide, ⟨rfl, rfl⟩⟩
def ti9 : TI := ⟨.str, 1, 16, [.str ⟨#[]⟩], .row cByteArray⟩
theorem ti9_ok : ti9.ok Try.prog 9 := ⟨Try.underlying9, ⟨Try.t9, _, info_of Try.type9, rfl, rfl, rfl, rfl⟩, rfl, rfl, by decide, ⟨cByteArray_ok, rfl, cByteArray_cov⟩⟩
def ti22 : TI := ⟨.slice 5, 1, 24, [.nil], .none⟩
theorem ti22_ok : ti22.ok Try.prog 22 := ⟨Try.underlying22, ⟨Try.t22, _, info_of Try.type22, rfl, rfl, rfl, rfl⟩, rfl, rfl, by decide, trivial⟩
def ti26 : TI := ⟨.slice 3, 1, 24, [.nil], .none⟩
theorem ti26_ok : ti26.ok Try.prog 26 := ⟨Try.underlying26, ⟨Try.t26, _, info_of Try.type26, rfl, rfl, rfl, rfl⟩, rfl, rfl, by decide, trivial⟩
def ti58 : TI := ⟨.slice 96, 1, 24, [.nil], .none⟩
theorem ti58_ok : ti58.ok Try.prog 58 := ⟨Try.underlying58, ⟨Try.t58, _, info_of Try.type58, rfl, rfl, rfl, rfl⟩, rfl, rfl, by decide, trivial⟩
def ti60 : TI := ⟨.slice 9, 1, 24, [.nil], .none⟩
theorem ti60_ok : ti60.ok Try.prog 60 := ⟨Try.underlying60, ⟨Try.t60, _, info_of Try.type60, rfl, rfl, rfl, rfl⟩, rfl, rfl, by decide, trivial⟩
def ti63 : TI := ⟨.slice 100, 1, 24, [.nil], .none⟩
theorem ti63_ok : ti63.ok Try.prog 63 := ⟨Try.underlying63, ⟨Try.t63, _, info_of Try.type63, rfl, rfl, rfl, rfl⟩, rfl, rfl, by decide, trivial⟩
def ti96 : TI := ⟨.struct [(0, 3, 1), (1, 4, 1), (2, 4, 1), (3, 9, 1)], 4, 32, [.int .i64 0, .bool false, .bool false, .str ⟨#[]⟩], .row cPacket⟩
theorem ti96_ok : ti96.ok Try.prog 96 := ⟨⟨_, Try.underlying96, rfl, fun w => by simp [Try.sizeOf3, Try.sizeOf4, Try.sizeOf9]⟩, ⟨Try.t96, _, info_of Try.type96, rfl, rfl, rfl, rfl⟩, rfl, rfl, by decide, ⟨cPacket_ok, rfl, cPacket_cov⟩⟩
def ti100 : TI := ⟨.struct [(0, 3, 1), (1, 4, 1), (2, 4, 1), (3, 9, 1)], 4, 32, [.int .i64 0, .bool false, .bool false, .str ⟨#[]⟩], .row cPacket⟩
theorem ti100_ok : ti100.ok Try.prog 100 := ⟨⟨_, Try.underlying100, rfl, fun w => by simp [Try.sizeOf3, Try.sizeOf4, Try.sizeOf9]⟩, ⟨Try.t100, _, info_of Try.type100, rfl, rfl, rfl, rfl⟩, rfl, rfl, by decide, ⟨cPacket_ok, rfl, cPacket_cov⟩⟩
def T : Nat → Option TI := lkT [(3, ti3), (4, ti4), (9, ti9), (5, ti5), (22, ti22), (26, ti26), (58, ti58), (60, ti60), (63, ti63), (96, ti96), (100, ti100)]
theorem hT : TOk Try.prog T := lkT_all (by
  intro p hp
  simp only [List.mem_cons, List.not_mem_nil, or_false] at hp
  rcases hp with rfl | rfl | rfl | rfl | rfl | rfl | rfl | rfl | rfl | rfl | rfl
  · exact ti3_ok
  · exact ti4_ok
  · exact ti9_ok
  · exact ti5_ok
  · exact ti22_ok
  · exact ti26_ok
  · exact ti58_ok
  · exact ti60_ok
  · exact ti63_ok
  · exact ti96_ok
  · exact ti100_ok)
theorem hm : Try.prog.follows .mixedOrders = true := by kernel_rfl
end Go.Proofs.Ytplmeeookgefnaa.A
