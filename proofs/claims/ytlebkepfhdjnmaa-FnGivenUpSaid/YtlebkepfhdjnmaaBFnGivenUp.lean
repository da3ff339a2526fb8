/- The types of the program, as the abstract logic reads them. Written by a program of this session. Conditions: none. -/
import Derived.Test.YtlebkepfhdjnmaaDFnGivenUp
import Derived.Test.YtlebkepfhdjnmaaRows
import Derived.KernelRfl
namespace Go.Proofs.Ytlebkepfhdjnmaa.A
open Go Go.Proofs Go.Proofs.YtlebkepfhdjnmaaAL Go.RowKit
set_option linter.unusedVariables false
set_option linter.unusedSimpArgs false
def Xjn (x : Xaa) : List SV := [.int .i64 x.Seq, .bool x.First, .bool x.Last, .str x.Bytes]
def Xok : List SV → Option Xaa
 | [x0, x1, x2, x3] => (match gI .i64 x0, gB x1, gB x2, gS x3 with | some a0, some a1, some a2, some a3 => some ⟨a0, a1, a2, a3⟩ | _, _, _, _ => none)
 | _ => none
abbrev Xad : Xhd := ⟨Xaa, Xaf, 4, Xjn, Xok⟩
theorem Xlk : Xad.ok := by
 refine ⟨fun _ => rfl, by decide, fun cs x h => ?_⟩
 change Xok cs = some x at h
 unfold Xok at h
 split at h
 ·
  split at h
  ·
   cases h
   refine ⟨rfl, fun j y hy => ?_⟩
   change (Xjn _)[j]? = some y at hy
   rcases j with _ | _ | _ | _ | _
   ·
    cases hy; exact ⟨_, rfl, Xtu (by assumption)⟩
   ·
    cases hy; exact ⟨_, rfl, Xsp (by assumption)⟩
   ·
    cases hy; exact ⟨_, rfl, Xsp (by assumption)⟩
   ·
    cases hy; exact ⟨_, rfl, Xtv (by assumption)⟩
   ·
    simp [Xjn] at hy
  ·
   cases h
 ·
  cases h
theorem Xn8 : Xlf [.int .i64 0, .bool false, .bool false, .str ⟨#[]⟩] (Xad.enc Xad.d) := by
 intro j y hy
 change (Xjn _)[j]? = some y at hy
 rcases j with _ | _ | _ | _ | _
 ·
  cases hy; exact ⟨_, rfl, fun _ _ _ h => h⟩
 ·
  cases hy; exact ⟨_, rfl, fun _ _ _ h => h⟩
 ·
  cases hy; exact ⟨_, rfl, fun _ _ _ h => h⟩
 ·
  cases hy; exact ⟨_, rfl, fun _ _ _ h => h⟩
 ·
  simp [Xjn] at hy
theorem Xao (l : List Xaa) : (l.filterMap fun y => Xad.dec (Xad.enc y)) = l := by
 rw [show (fun y => Xad.dec (Xad.enc y)) = some from funext fun y => rfl]; exact List.filterMap_some
def ti3 : TI := ⟨.int .i64, 1, 8, [.int .i64 0], .ints .i64⟩
theorem Xt2 : ti3.ok Try.prog 3 := ⟨Try.underlying3, ⟨Try.t3, _, Xe4 Try.type3, rfl, rfl, rfl, rfl⟩, rfl, rfl, by decide, ⟨rfl, rfl⟩⟩
def ti4 : TI := ⟨.bool, 1, 1, [.bool false], .none⟩
theorem Xt3 : ti4.ok Try.prog 4 := ⟨Try.underlying4, ⟨Try.t4, _, Xe4 Try.type4, rfl, rfl, rfl, rfl⟩, rfl, rfl, by decide, trivial⟩
def ti5 : TI := ⟨.int .u8, 1, 1, [.int .u8 0], .ints .u8⟩
theorem Xt4 : ti5.ok Try.prog 5 := ⟨Try.underlying5, ⟨Try.t5, _, Xe4 Try.type5, rfl, rfl, rfl, rfl⟩, rfl, rfl, by decide, ⟨rfl, rfl⟩⟩
def ti9 : TI := ⟨.str, 1, 16, [.str ⟨#[]⟩], .none⟩
theorem Xt5 : ti9.ok Try.prog 9 := ⟨Try.underlying9, ⟨Try.t9, _, Xe4 Try.type9, rfl, rfl, rfl, rfl⟩, rfl, rfl, by decide, trivial⟩
def Xuo : TI := ⟨.slice 5, 1, 24, [.nil], .none⟩
theorem Xth : Xuo.ok Try.prog 22 := ⟨Try.underlying22, ⟨Try.t22, _, Xe4 Try.type22, rfl, rfl, rfl, rfl⟩, rfl, rfl, by decide, trivial⟩
def Xup : TI := ⟨.slice 3, 1, 24, [.nil], .none⟩
theorem Xti : Xup.ok Try.prog 26 := ⟨Try.underlying26, ⟨Try.t26, _, Xe4 Try.type26, rfl, rfl, rfl, rfl⟩, rfl, rfl, by decide, trivial⟩
def Xuq : TI := ⟨.slice 57, 1, 24, [.nil], .none⟩
theorem Xtj : Xuq.ok Try.prog 38 := ⟨Try.underlying38, ⟨Try.t38, _, Xe4 Try.type38, rfl, rfl, rfl, rfl⟩, rfl, rfl, by decide, trivial⟩
def Xur : TI := ⟨.struct [(0, 4, 1), (1, 3, 1), (2, 3, 1), (3, 38, 1), (4, 3, 1), (5, 3, 1), (6, 3, 1), (7, 3, 1), (8, 3, 1)], 9, 88, [.bool false, .int .i64 0, .int .i64 0, .nil, .int .i64 0, .int .i64 0, .int .i64 0, .int .i64 0, .int .i64 0], .none⟩
theorem Xtk : Xur.ok Try.prog 40 := ⟨⟨_, Try.underlying40, rfl, fun w => by simp [Try.sizeOf3, Try.sizeOf38, Try.sizeOf4]⟩, ⟨Try.t40, _, Xe4 Try.type40, rfl, rfl, rfl, rfl⟩, rfl, rfl, by decide, trivial⟩
def Xus : TI := ⟨.struct [(0, 3, 1), (1, 4, 1), (2, 4, 1), (3, 9, 1)], 4, 32, [.int .i64 0, .bool false, .bool false, .str ⟨#[]⟩], .row Xad⟩
theorem Xtl : Xus.ok Try.prog 57 := ⟨⟨_, Try.underlying57, rfl, fun w => by simp [Try.sizeOf3, Try.sizeOf4, Try.sizeOf9]⟩, ⟨Try.t57, _, Xe4 Try.type57, rfl, rfl, rfl, rfl⟩, rfl, rfl, by decide, ⟨Xlk, rfl, Xn8⟩⟩
def Xut : TI := ⟨.struct [(0, 22, 1), (1, 3, 1), (2, 3, 1)], 3, 40, [.nil, .int .i64 0, .int .i64 0], .none⟩
theorem Xtm : Xut.ok Try.prog 83 := ⟨⟨_, Try.underlying83, rfl, fun w => by simp [Try.sizeOf22, Try.sizeOf3]⟩, ⟨Try.t83, _, Xe4 Try.type83, rfl, rfl, rfl, rfl⟩, rfl, rfl, by decide, trivial⟩
def T : Nat → Option TI := lkT [(3, ti3), (4, ti4), (9, ti9), (5, ti5), (22, Xuo), (26, Xup), (38, Xuq), (40, Xur), (57, Xus), (83, Xut)]
theorem hT : TOk Try.prog T := Xs5 (by
 intro p hp
 simp only [List.mem_cons, List.not_mem_nil, or_false] at hp
 rcases hp with rfl | rfl | rfl | rfl | rfl | rfl | rfl | rfl | rfl | rfl
 ·
  exact Xt2
 ·
  exact Xt3
 ·
  exact Xt5
 ·
  exact Xt4
 ·
  exact Xth
 ·
  exact Xti
 ·
  exact Xtj
 ·
  exact Xtk
 ·
  exact Xtl
 ·
  exact Xtm)
theorem hm : Try.prog.follows .mixedOrders = true := by kernel_rfl
end Go.Proofs.Ytlebkepfhdjnmaa.A
