/- The types of the program, as the abstract logic reads them. Written by a program of this session. Conditions: none. -/
import Derived.Test.YtplmeeookgefnaaDFnQueues
import Derived.Test.YtplmeeookgefnaaRows
import Derived.KernelRfl
namespace Go.Proofs.Ytplmeeookgefnaa.A
open Go Go.Proofs Go.Proofs.YtplmeeookgefnaaAL Go.RowKit
set_option linter.unusedVariables false
set_option linter.unusedSimpArgs false
def ePacket (x : Packet) : List SV := [.int .i64 x.Seq, .bool x.First, .bool x.Last, .str x.Bytes]
def rPacket : List SV → Option Packet
  | [x0, x1, x2, x3] => (match gI .i64 x0, gB x1, gB x2, gS x3 with | some a0, some a1, some a2, some a3 => some ⟨a0, a1, a2, a3⟩ | _, _, _, _ => none)
  | _ => none
abbrev cPacket : Codec := ⟨Packet, dPacket, 4, ePacket, rPacket⟩
theorem cPacket_ok : cPacket.ok := by
  refine ⟨fun _ => rfl, by decide, fun cs x h => ?_⟩
  change rPacket cs = some x at h
  unfold rPacket at h
  split at h
  · split at h
    · cases h
      refine ⟨rfl, fun j y hy => ?_⟩
      change (ePacket _)[j]? = some y at hy
      rcases j with _ | _ | _ | _ | _
      · cases hy; exact ⟨_, rfl, gI_rep (by assumption)⟩
      · cases hy; exact ⟨_, rfl, gB_rep (by assumption)⟩
      · cases hy; exact ⟨_, rfl, gB_rep (by assumption)⟩
      · cases hy; exact ⟨_, rfl, gS_rep (by assumption)⟩
      · simp [ePacket] at hy
    · cases h
  · cases h
theorem cPacket_cov : Covers [.int .i64 0, .bool false, .bool false, .str ⟨#[]⟩] (cPacket.enc cPacket.d) := by
  intro j y hy
  change (ePacket _)[j]? = some y at hy
  rcases j with _ | _ | _ | _ | _
  · cases hy; exact ⟨_, rfl, fun _ _ _ h => h⟩
  · cases hy; exact ⟨_, rfl, fun _ _ _ h => h⟩
  · cases hy; exact ⟨_, rfl, fun _ _ _ h => h⟩
  · cases hy; exact ⟨_, rfl, fun _ _ _ h => h⟩
  · simp [ePacket] at hy
theorem cPacket_id (l : List Packet) : (l.filterMap fun y => cPacket.dec (cPacket.enc y)) = l := by
  rw [show (fun y => cPacket.dec (cPacket.enc y)) = some from funext fun y => rfl]; exact List.filterMap_some
def ti3 : TI := ⟨.int .i64, 1, 8, [.int .i64 0], .ints .i64⟩
theorem ti3_ok : ti3.ok Try.prog 3 := ⟨Try.underlying3, ⟨Try.t3, _, info_of Try.type3, rfl, rfl, rfl, rfl⟩, rfl, rfl, by decide, ⟨rfl, rfl⟩⟩
def ti4 : TI := ⟨.bool, 1, 1, [.bool false], .none⟩
theorem ti4_ok : ti4.ok Try.prog 4 := ⟨Try.underlying4, ⟨Try.t4, _, info_of Try.type4, rfl, rfl, rfl, rfl⟩, rfl, rfl, by decide, trivial⟩
def ti5 : TI := ⟨.int .u8, 1, 1, [.int .u8 0], .ints .u8⟩
theorem ti5_ok : ti5.ok Try.prog 5 := ⟨Try.underlying5, ⟨Try.t5, _, info_of Try.type5, rfl, rfl, rfl, rfl⟩, rfl, rfl, by decide, ⟨rfl, rfl⟩⟩
def ti9 : TI := ⟨.str, 1, 16, [.str ⟨#[]⟩], .none⟩
theorem ti9_ok : ti9.ok Try.prog 9 := ⟨Try.underlying9, ⟨Try.t9, _, info_of Try.type9, rfl, rfl, rfl, rfl⟩, rfl, rfl, by decide, trivial⟩
def ti22 : TI := ⟨.slice 5, 1, 24, [.nil], .none⟩
theorem ti22_ok : ti22.ok Try.prog 22 := ⟨Try.underlying22, ⟨Try.t22, _, info_of Try.type22, rfl, rfl, rfl, rfl⟩, rfl, rfl, by decide, trivial⟩
def ti26 : TI := ⟨.slice 3, 1, 24, [.nil], .none⟩
theorem ti26_ok : ti26.ok Try.prog 26 := ⟨Try.underlying26, ⟨Try.t26, _, info_of Try.type26, rfl, rfl, rfl, rfl⟩, rfl, rfl, by decide, trivial⟩
def ti63 : TI := ⟨.slice 100, 1, 24, [.nil], .none⟩
theorem ti63_ok : ti63.ok Try.prog 63 := ⟨Try.underlying63, ⟨Try.t63, _, info_of Try.type63, rfl, rfl, rfl, rfl⟩, rfl, rfl, by decide, trivial⟩
def ti85 : TI := ⟨.struct [(0, 4, 1), (1, 3, 1), (2, 3, 1), (3, 63, 1), (4, 3, 1), (5, 3, 1), (6, 3, 1), (7, 3, 1), (8, 3, 1)], 9, 88, [.bool false, .int .i64 0, .int .i64 0, .nil, .int .i64 0, .int .i64 0, .int .i64 0, .int .i64 0, .int .i64 0], .none⟩
theorem ti85_ok : ti85.ok Try.prog 85 := ⟨⟨_, Try.underlying85, rfl, fun w => by simp [Try.sizeOf3, Try.sizeOf4, Try.sizeOf63]⟩, ⟨Try.t85, _, info_of Try.type85, rfl, rfl, rfl, rfl⟩, rfl, rfl, by decide, trivial⟩
def ti100 : TI := ⟨.struct [(0, 3, 1), (1, 4, 1), (2, 4, 1), (3, 9, 1)], 4, 32, [.int .i64 0, .bool false, .bool false, .str ⟨#[]⟩], .row cPacket⟩
theorem ti100_ok : ti100.ok Try.prog 100 := ⟨⟨_, Try.underlying100, rfl, fun w => by simp [Try.sizeOf3, Try.sizeOf4, Try.sizeOf9]⟩, ⟨Try.t100, _, info_of Try.type100, rfl, rfl, rfl, rfl⟩, rfl, rfl, by decide, ⟨cPacket_ok, rfl, cPacket_cov⟩⟩
def ti224 : TI := ⟨.struct [(0, 22, 1), (1, 3, 1), (2, 3, 1)], 3, 40, [.nil, .int .i64 0, .int .i64 0], .none⟩
theorem ti224_ok : ti224.ok Try.prog 224 := ⟨⟨_, Try.underlying224, rfl, fun w => by simp [Try.sizeOf22, Try.sizeOf3]⟩, ⟨Try.t224, _, info_of Try.type224, rfl, rfl, rfl, rfl⟩, rfl, rfl, by decide, trivial⟩
def T : Nat → Option TI := lkT [(3, ti3), (4, ti4), (9, ti9), (5, ti5), (22, ti22), (26, ti26), (63, ti63), (85, ti85), (100, ti100), (224, ti224)]
theorem hT : TOk Try.prog T := lkT_all (by
  intro p hp
  simp only [List.mem_cons, List.not_mem_nil, or_false] at hp
  rcases hp with rfl | rfl | rfl | rfl | rfl | rfl | rfl | rfl | rfl | rfl
  · exact ti3_ok
  · exact ti4_ok
  · exact ti9_ok
  · exact ti5_ok
  · exact ti22_ok
  · exact ti26_ok
  · exact ti63_ok
  · exact ti85_ok
  · exact ti100_ok
  · exact ti224_ok)
theorem hm : Try.prog.follows .mixedOrders = true := by kernel_rfl
theorem eqA100 (d : Nat) (w : World) (x0 y0 : Int) (x1 y1 : Bool) (x2 y2 : Bool) (x3 y3 : ByteArray) : (Op.equalIn (d + 2) 100 (.agg #[.int .i64 x0, .bool x1, .bool x2, .string x3]) (.agg #[.int .i64 y0, .bool y1, .bool y2, .string y3])).run Try.prog w = .ok ((x0 == y0) && ((x1 == y1) && ((x2 == y2) && (x3.toList == y3.toList)))) w := by
  refine eqA_of Try.underlying100 (by kernel_rfl) ?_
  refine eqf_cons (by rfl) (by go_simp; rfl) (by go_simp; rfl) (by go_simp) ?_
  refine eqf_cons (by rfl) (by go_simp; rfl) (by go_simp; rfl) (by go_simp) ?_
  refine eqf_cons (by rfl) (by go_simp; rfl) (by go_simp; rfl) (by go_simp) ?_
  exact eqf_last (by rfl) (by go_simp; rfl) (by go_simp; rfl) (by go_simp)
theorem eq_t100 {x0 y0 : Int} {x1 y1 : Bool} {x2 y2 : Bool} {x3 y3 : ByteArray} : EqT Try.prog 100 [.int .i64 x0, .bool x1, .bool x2, .str x3] [.int .i64 y0, .bool y1, .bool y2, .str y3] ((x0 == y0) && ((x1 == y1) && ((x2 == y2) && (x3.toList == y3.toList)))) := ⟨by kernel_rfl, rfl, rfl, fun w => eqA100 9998 w _ _ _ _ _ _ _ _⟩
end Go.Proofs.Ytplmeeookgefnaa.A
