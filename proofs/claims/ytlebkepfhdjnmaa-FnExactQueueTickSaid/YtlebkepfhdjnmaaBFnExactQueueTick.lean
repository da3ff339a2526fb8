/- The types of the program, as the abstract logic reads them. Written by a program of this session. Conditions: none. -/
import Derived.Test.YtlebkepfhdjnmaaDFnExactQueueTick
import Derived.Test.YtlebkepfhdjnmaaRows
import Derived.KernelRfl
namespace Go.Proofs.Ytlebkepfhdjnmaa.A
open Go Go.Proofs Go.Proofs.YtlebkepfhdjnmaaAL Go.RowKit
set_option linter.unusedVariables false
set_option linter.unusedSimpArgs false
def Xi4 (x : Packet) : List SV := [.int .i64 x.Seq, .bool x.First, .bool x.Last, .str x.Bytes]
def Xnb : List SV → Option Packet
 | [x0, x1, x2, x3] => (match gI .i64 x0, gB x1, gB x2, gS x3 with | some a0, some a1, some a2, some a3 => some ⟨a0, a1, a2, a3⟩ | _, _, _, _ => none)
 | _ => none
abbrev Xae : Xgk := ⟨Packet, Xac, 4, Xi4, Xnb⟩
theorem Xgo : Xae.ok := by
 refine ⟨fun _ => rfl, by decide, fun cs x h => ?_⟩
 change Xnb cs = some x at h
 unfold Xnb at h
 split at h
 ·
  split at h
  ·
   cases h
   refine ⟨rfl, fun j y hy => ?_⟩
   change (Xi4 _)[j]? = some y at hy
   rcases j with _ | _ | _ | _ | _
   ·
    cases hy; exact ⟨_, rfl, Xsa (by assumption)⟩
   ·
    cases hy; exact ⟨_, rfl, Xq5 (by assumption)⟩
   ·
    cases hy; exact ⟨_, rfl, Xq5 (by assumption)⟩
   ·
    cases hy; exact ⟨_, rfl, Xsb (by assumption)⟩
   ·
    simp [Xi4] at hy
  ·
   cases h
 ·
  cases h
theorem Xi1 : Xkn [.int .i64 0, .bool false, .bool false, .str ⟨#[]⟩] (Xae.enc Xae.d) := by
 intro j y hy
 change (Xi4 _)[j]? = some y at hy
 rcases j with _ | _ | _ | _ | _
 ·
  cases hy; exact ⟨_, rfl, fun _ _ _ h => h⟩
 ·
  cases hy; exact ⟨_, rfl, fun _ _ _ h => h⟩
 ·
  cases hy; exact ⟨_, rfl, fun _ _ _ h => h⟩
 ·
  cases hy; exact ⟨_, rfl, fun _ _ _ h => h⟩
 ·
  simp [Xi4] at hy
theorem Xan (l : List Packet) : (l.filterMap fun y => Xae.dec (Xae.enc y)) = l := by
 rw [show (fun y => Xae.dec (Xae.enc y)) = some from funext fun y => rfl]; exact List.filterMap_some
def ti3 : TI := ⟨.int .i64, 1, 8, [.int .i64 0], .ints .i64⟩
theorem Xsk : ti3.ok Try.prog 3 := ⟨Try.underlying3, ⟨Try.t3, _, Xdh Try.type3, rfl, rfl, rfl, rfl⟩, rfl, rfl, by decide, ⟨rfl, rfl⟩⟩
def ti4 : TI := ⟨.bool, 1, 1, [.bool false], .none⟩
theorem Xsl : ti4.ok Try.prog 4 := ⟨Try.underlying4, ⟨Try.t4, _, Xdh Try.type4, rfl, rfl, rfl, rfl⟩, rfl, rfl, by decide, trivial⟩
def ti5 : TI := ⟨.int .u8, 1, 1, [.int .u8 0], .ints .u8⟩
theorem Xsm : ti5.ok Try.prog 5 := ⟨Try.underlying5, ⟨Try.t5, _, Xdh Try.type5, rfl, rfl, rfl, rfl⟩, rfl, rfl, by decide, ⟨rfl, rfl⟩⟩
def ti9 : TI := ⟨.str, 1, 16, [.str ⟨#[]⟩], .none⟩
theorem Xsn : ti9.ok Try.prog 9 := ⟨Try.underlying9, ⟨Try.t9, _, Xdh Try.type9, rfl, rfl, rfl, rfl⟩, rfl, rfl, by decide, trivial⟩
def Xs6 : TI := ⟨.slice 5, 1, 24, [.nil], .none⟩
theorem Xrv : Xs6.ok Try.prog 22 := ⟨Try.underlying22, ⟨Try.t22, _, Xdh Try.type22, rfl, rfl, rfl, rfl⟩, rfl, rfl, by decide, trivial⟩
def Xs7 : TI := ⟨.slice 3, 1, 24, [.nil], .none⟩
theorem Xrw : Xs7.ok Try.prog 26 := ⟨Try.underlying26, ⟨Try.t26, _, Xdh Try.type26, rfl, rfl, rfl, rfl⟩, rfl, rfl, by decide, trivial⟩
def Xs8 : TI := ⟨.slice 53, 1, 24, [.nil], .none⟩
theorem Xrx : Xs8.ok Try.prog 34 := ⟨Try.underlying34, ⟨Try.t34, _, Xdh Try.type34, rfl, rfl, rfl, rfl⟩, rfl, rfl, by decide, trivial⟩
def Xs9 : TI := ⟨.struct [(0, 4, 1), (1, 3, 1), (2, 3, 1), (3, 34, 1), (4, 3, 1), (5, 3, 1), (6, 3, 1), (7, 3, 1), (8, 3, 1)], 9, 88, [.bool false, .int .i64 0, .int .i64 0, .nil, .int .i64 0, .int .i64 0, .int .i64 0, .int .i64 0, .int .i64 0], .none⟩
theorem Xry : Xs9.ok Try.prog 36 := ⟨⟨_, Try.underlying36, rfl, fun w => by simp [Try.sizeOf3, Try.sizeOf34, Try.sizeOf4]⟩, ⟨Try.t36, _, Xdh Try.type36, rfl, rfl, rfl, rfl⟩, rfl, rfl, by decide, trivial⟩
def Xta : TI := ⟨.slice 57, 1, 24, [.nil], .none⟩
theorem Xrz : Xta.ok Try.prog 38 := ⟨Try.underlying38, ⟨Try.t38, _, Xdh Try.type38, rfl, rfl, rfl, rfl⟩, rfl, rfl, by decide, trivial⟩
def Xtb : TI := ⟨.struct [(0, 4, 1), (1, 3, 1), (2, 3, 1), (3, 38, 1), (4, 3, 1), (5, 3, 1), (6, 3, 1), (7, 3, 1), (8, 3, 1)], 9, 88, [.bool false, .int .i64 0, .int .i64 0, .nil, .int .i64 0, .int .i64 0, .int .i64 0, .int .i64 0, .int .i64 0], .none⟩
theorem Xr0 : Xtb.ok Try.prog 40 := ⟨⟨_, Try.underlying40, rfl, fun w => by simp [Try.sizeOf3, Try.sizeOf38, Try.sizeOf4]⟩, ⟨Try.t40, _, Xdh Try.type40, rfl, rfl, rfl, rfl⟩, rfl, rfl, by decide, trivial⟩
def Xtc : TI := ⟨.struct [(0, 3, 1), (1, 4, 1), (2, 4, 1), (3, 9, 1)], 4, 32, [.int .i64 0, .bool false, .bool false, .str ⟨#[]⟩], .row Xae⟩
theorem Xr1 : Xtc.ok Try.prog 53 := ⟨⟨_, Try.underlying53, rfl, fun w => by simp [Try.sizeOf3, Try.sizeOf4, Try.sizeOf9]⟩, ⟨Try.t53, _, Xdh Try.type53, rfl, rfl, rfl, rfl⟩, rfl, rfl, by decide, ⟨Xgo, rfl, Xi1⟩⟩
def Xtd : TI := ⟨.struct [(0, 3, 1), (1, 4, 1), (2, 4, 1), (3, 9, 1)], 4, 32, [.int .i64 0, .bool false, .bool false, .str ⟨#[]⟩], .row Xae⟩
theorem Xr2 : Xtd.ok Try.prog 57 := ⟨⟨_, Try.underlying57, rfl, fun w => by simp [Try.sizeOf3, Try.sizeOf4, Try.sizeOf9]⟩, ⟨Try.t57, _, Xdh Try.type57, rfl, rfl, rfl, rfl⟩, rfl, rfl, by decide, ⟨Xgo, rfl, Xi1⟩⟩
def T : Nat → Option TI := lkT [(3, ti3), (4, ti4), (9, ti9), (5, ti5), (22, Xs6), (26, Xs7), (34, Xs8), (36, Xs9), (38, Xta), (40, Xtb), (53, Xtc), (57, Xtd)]
theorem hT : TOk Try.prog T := Xrk (by
 intro p hp
 simp only [List.mem_cons, List.not_mem_nil, or_false] at hp
 rcases hp with rfl | rfl | rfl | rfl | rfl | rfl | rfl | rfl | rfl | rfl | rfl | rfl
 ·
  exact Xsk
 ·
  exact Xsl
 ·
  exact Xsn
 ·
  exact Xsm
 ·
  exact Xrv
 ·
  exact Xrw
 ·
  exact Xrx
 ·
  exact Xry
 ·
  exact Xrz
 ·
  exact Xr0
 ·
  exact Xr1
 ·
  exact Xr2)
theorem hm : Try.prog.follows .mixedOrders = true := by kernel_rfl
end Go.Proofs.Ytlebkepfhdjnmaa.A
