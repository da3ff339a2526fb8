/- The types of the program, as the abstract logic reads them. Written by a program of this session. Conditions: none. -/
import Derived.Test.YtlebkepfhdjnmaaDFnExactQueueIn
import Derived.Test.YtlebkepfhdjnmaaRows
import Derived.KernelRfl
namespace Go.Proofs.Ytlebkepfhdjnmaa.A
open Go Go.Proofs Go.Proofs.YtlebkepfhdjnmaaAL Go.RowKit
set_option linter.unusedVariables false
set_option linter.unusedSimpArgs false
def Xjn (x : Packet) : List SV := [.int .i64 x.Seq, .bool x.First, .bool x.Last, .str x.Bytes]
def Xny : List SV → Option Packet
 | [x0, x1, x2, x3] => (match gI .i64 x0, gB x1, gB x2, gS x3 with | some a0, some a1, some a2, some a3 => some ⟨a0, a1, a2, a3⟩ | _, _, _, _ => none)
 | _ => none
abbrev Xaf : Xgm := ⟨Packet, Xad, 4, Xjn, Xny⟩
theorem Xfx : Xaf.ok := by
 refine ⟨fun _ => rfl, by decide, fun cs x h => ?_⟩
 change Xny cs = some x at h
 unfold Xny at h
 split at h
 ·
  split at h
  ·
   cases h
   refine ⟨rfl, fun j y hy => ?_⟩
   change (Xjn _)[j]? = some y at hy
   rcases j with _ | _ | _ | _ | _
   ·
    cases hy; exact ⟨_, rfl, Xs0 (by assumption)⟩
   ·
    cases hy; exact ⟨_, rfl, Xrv (by assumption)⟩
   ·
    cases hy; exact ⟨_, rfl, Xrv (by assumption)⟩
   ·
    cases hy; exact ⟨_, rfl, Xs1 (by assumption)⟩
   ·
    simp [Xjn] at hy
  ·
   cases h
 ·
  cases h
theorem Xjj : Xk7 [.int .i64 0, .bool false, .bool false, .str ⟨#[]⟩] (Xaf.enc Xaf.d) := by
 intro j y hy
 change (Xjn _)[j]? = some y at hy
 rcases j with _ | _ | _ | _ | _
 ·
  cases hy; exact ⟨_, rfl, fun _ _ _ h => h⟩
 ·
  cases hy; exact ⟨_, rfl, fun _ _ _ h => h⟩
 ·
  cases hy; exact ⟨_, rfl, fun _ _ _ h => h⟩
 ·
  cases hy; exact ⟨_, rfl, fun _ _ _ h => h⟩
 ·
  simp [Xjn] at hy
theorem Xao (l : List Packet) : (l.filterMap fun y => Xaf.dec (Xaf.enc y)) = l := by
 rw [show (fun y => Xaf.dec (Xaf.enc y)) = some from funext fun y => rfl]; exact List.filterMap_some
def ti3 : TI := ⟨.int .i64, 1, 8, [.int .i64 0], .ints .i64⟩
theorem Xs7 : ti3.ok Try.prog 3 := ⟨Try.underlying3, ⟨Try.t3, _, Xdt Try.type3, rfl, rfl, rfl, rfl⟩, rfl, rfl, by decide, ⟨rfl, rfl⟩⟩
def ti4 : TI := ⟨.bool, 1, 1, [.bool false], .none⟩
theorem Xs8 : ti4.ok Try.prog 4 := ⟨Try.underlying4, ⟨Try.t4, _, Xdt Try.type4, rfl, rfl, rfl, rfl⟩, rfl, rfl, by decide, trivial⟩
def ti5 : TI := ⟨.int .u8, 1, 1, [.int .u8 0], .ints .u8⟩
theorem Xs9 : ti5.ok Try.prog 5 := ⟨Try.underlying5, ⟨Try.t5, _, Xdt Try.type5, rfl, rfl, rfl, rfl⟩, rfl, rfl, by decide, ⟨rfl, rfl⟩⟩
def ti9 : TI := ⟨.str, 1, 16, [.str ⟨#[]⟩], .none⟩
theorem Xta : ti9.ok Try.prog 9 := ⟨Try.underlying9, ⟨Try.t9, _, Xdt Try.type9, rfl, rfl, rfl, rfl⟩, rfl, rfl, by decide, trivial⟩
def Xtx : TI := ⟨.slice 5, 1, 24, [.nil], .none⟩
theorem Xsj : Xtx.ok Try.prog 22 := ⟨Try.underlying22, ⟨Try.t22, _, Xdt Try.type22, rfl, rfl, rfl, rfl⟩, rfl, rfl, by decide, trivial⟩
def Xty : TI := ⟨.slice 3, 1, 24, [.nil], .none⟩
theorem Xsk : Xty.ok Try.prog 26 := ⟨Try.underlying26, ⟨Try.t26, _, Xdt Try.type26, rfl, rfl, rfl, rfl⟩, rfl, rfl, by decide, trivial⟩
def Xtz : TI := ⟨.slice 53, 1, 24, [.nil], .none⟩
theorem Xsl : Xtz.ok Try.prog 34 := ⟨Try.underlying34, ⟨Try.t34, _, Xdt Try.type34, rfl, rfl, rfl, rfl⟩, rfl, rfl, by decide, trivial⟩
def Xt0 : TI := ⟨.struct [(0, 4, 1), (1, 3, 1), (2, 3, 1), (3, 34, 1), (4, 3, 1), (5, 3, 1), (6, 3, 1), (7, 3, 1), (8, 3, 1)], 9, 88, [.bool false, .int .i64 0, .int .i64 0, .nil, .int .i64 0, .int .i64 0, .int .i64 0, .int .i64 0, .int .i64 0], .none⟩
theorem Xsm : Xt0.ok Try.prog 36 := ⟨⟨_, Try.underlying36, rfl, fun w => by simp [Try.sizeOf3, Try.sizeOf34, Try.sizeOf4]⟩, ⟨Try.t36, _, Xdt Try.type36, rfl, rfl, rfl, rfl⟩, rfl, rfl, by decide, trivial⟩
def Xt1 : TI := ⟨.slice 57, 1, 24, [.nil], .none⟩
theorem Xsn : Xt1.ok Try.prog 38 := ⟨Try.underlying38, ⟨Try.t38, _, Xdt Try.type38, rfl, rfl, rfl, rfl⟩, rfl, rfl, by decide, trivial⟩
def Xt2 : TI := ⟨.struct [(0, 4, 1), (1, 3, 1), (2, 3, 1), (3, 38, 1), (4, 3, 1), (5, 3, 1), (6, 3, 1), (7, 3, 1), (8, 3, 1)], 9, 88, [.bool false, .int .i64 0, .int .i64 0, .nil, .int .i64 0, .int .i64 0, .int .i64 0, .int .i64 0, .int .i64 0], .none⟩
theorem Xso : Xt2.ok Try.prog 40 := ⟨⟨_, Try.underlying40, rfl, fun w => by simp [Try.sizeOf3, Try.sizeOf38, Try.sizeOf4]⟩, ⟨Try.t40, _, Xdt Try.type40, rfl, rfl, rfl, rfl⟩, rfl, rfl, by decide, trivial⟩
def Xt3 : TI := ⟨.struct [(0, 3, 1), (1, 4, 1), (2, 4, 1), (3, 9, 1)], 4, 32, [.int .i64 0, .bool false, .bool false, .str ⟨#[]⟩], .row Xaf⟩
theorem Xsp : Xt3.ok Try.prog 53 := ⟨⟨_, Try.underlying53, rfl, fun w => by simp [Try.sizeOf3, Try.sizeOf4, Try.sizeOf9]⟩, ⟨Try.t53, _, Xdt Try.type53, rfl, rfl, rfl, rfl⟩, rfl, rfl, by decide, ⟨Xfx, rfl, Xjj⟩⟩
def Xt4 : TI := ⟨.struct [(0, 3, 1), (1, 4, 1), (2, 4, 1), (3, 9, 1)], 4, 32, [.int .i64 0, .bool false, .bool false, .str ⟨#[]⟩], .row Xaf⟩
theorem Xsq : Xt4.ok Try.prog 57 := ⟨⟨_, Try.underlying57, rfl, fun w => by simp [Try.sizeOf3, Try.sizeOf4, Try.sizeOf9]⟩, ⟨Try.t57, _, Xdt Try.type57, rfl, rfl, rfl, rfl⟩, rfl, rfl, by decide, ⟨Xfx, rfl, Xjj⟩⟩
def T : Nat → Option TI := lkT [(3, ti3), (4, ti4), (9, ti9), (5, ti5), (22, Xtx), (26, Xty), (34, Xtz), (36, Xt0), (38, Xt1), (40, Xt2), (53, Xt3), (57, Xt4)]
theorem hT : TOk Try.prog T := Xr9 (by
 intro p hp
 simp only [List.mem_cons, List.not_mem_nil, or_false] at hp
 rcases hp with rfl | rfl | rfl | rfl | rfl | rfl | rfl | rfl | rfl | rfl | rfl | rfl
 ·
  exact Xs7
 ·
  exact Xs8
 ·
  exact Xta
 ·
  exact Xs9
 ·
  exact Xsj
 ·
  exact Xsk
 ·
  exact Xsl
 ·
  exact Xsm
 ·
  exact Xsn
 ·
  exact Xso
 ·
  exact Xsp
 ·
  exact Xsq)
theorem hm : Try.prog.follows .mixedOrders = true := by kernel_rfl
end Go.Proofs.Ytlebkepfhdjnmaa.A
