/- The types of the program, as the abstract logic reads them. Written by a program of this session. Conditions: none. -/
import Derived.Test.YtlebkepfhdjnmabDFnExactSentSize
import Derived.Test.YtlebkepfhdjnmabRows
import Derived.KernelRfl
namespace Go.Proofs.Ytlebkepfhdjnmab.A
open Go Go.Proofs Go.Proofs.YtlebkepfhdjnmabAL Go.RowKit
set_option linter.unusedVariables false
set_option linter.unusedSimpArgs false
def Xi5 (x : Square) : List SV := [.int .i64 x.Kind, .int .i64 x.Mode, .int .i64 x.Dx, .int .i64 x.Dy, .ints .i64 x.Levels]
def Xoq : List SV → Option Square
 | [x0, x1, x2, x3, x4] => (match gI .i64 x0, gI .i64 x1, gI .i64 x2, gI .i64 x3, gL .i64 x4 with | some a0, some a1, some a2, some a3, some a4 => some ⟨a0, a1, a2, a3, a4⟩ | _, _, _, _, _ => none)
 | _ => none
abbrev Xas : Xgx := ⟨Square, Xah, 5, Xi5, Xoq⟩
theorem Xg1 : Xas.ok := by
 refine ⟨fun _ => rfl, by decide, fun cs x h => ?_⟩
 change Xoq cs = some x at h
 unfold Xoq at h
 split at h
 ·
  split at h
  ·
   cases h
   refine ⟨rfl, fun j y hy => ?_⟩
   change (Xi5 _)[j]? = some y at hy
   rcases j with _ | _ | _ | _ | _ | _
   ·
    cases hy; exact ⟨_, rfl, Xpb (by assumption)⟩
   ·
    cases hy; exact ⟨_, rfl, Xpb (by assumption)⟩
   ·
    cases hy; exact ⟨_, rfl, Xpb (by assumption)⟩
   ·
    cases hy; exact ⟨_, rfl, Xpb (by assumption)⟩
   ·
    cases hy; exact ⟨_, rfl, Xsv (by assumption)⟩
   ·
    simp [Xi5] at hy
  ·
   cases h
 ·
  cases h
theorem Xi2 : Xln [.int .i64 0, .int .i64 0, .int .i64 0, .int .i64 0, .nil] (Xas.enc Xas.d) := by
 intro j y hy
 change (Xi5 _)[j]? = some y at hy
 rcases j with _ | _ | _ | _ | _ | _
 ·
  cases hy; exact ⟨_, rfl, fun _ _ _ h => h⟩
 ·
  cases hy; exact ⟨_, rfl, fun _ _ _ h => h⟩
 ·
  cases hy; exact ⟨_, rfl, fun _ _ _ h => h⟩
 ·
  cases hy; exact ⟨_, rfl, fun _ _ _ h => h⟩
 ·
  cases hy; exact ⟨_, rfl, Xsv (k := .i64) rfl⟩
 ·
  simp [Xi5] at hy
theorem Xtu (l : List Square) : (l.filterMap fun y => Xas.dec (Xas.enc y)) = l := by
 rw [show (fun y => Xas.dec (Xas.enc y)) = some from funext fun y => rfl]; exact List.filterMap_some
def ti3 : TI := ⟨.int .i64, 1, 8, [.int .i64 0], .ints .i64⟩
theorem Xt8 : ti3.ok Try.prog 3 := ⟨Try.underlying3, ⟨Try.t3, _, Xdb Try.type3, rfl, rfl, rfl, rfl⟩, rfl, rfl, by decide, ⟨rfl, rfl⟩⟩
def ti4 : TI := ⟨.bool, 1, 1, [.bool false], .none⟩
theorem Xt9 : ti4.ok Try.prog 4 := ⟨Try.underlying4, ⟨Try.t4, _, Xdb Try.type4, rfl, rfl, rfl, rfl⟩, rfl, rfl, by decide, trivial⟩
def ti5 : TI := ⟨.int .u8, 1, 1, [.int .u8 0], .ints .u8⟩
theorem Xua : ti5.ok Try.prog 5 := ⟨Try.underlying5, ⟨Try.t5, _, Xdb Try.type5, rfl, rfl, rfl, rfl⟩, rfl, rfl, by decide, ⟨rfl, rfl⟩⟩
def ti9 : TI := ⟨.str, 1, 16, [.str ⟨#[]⟩], .none⟩
theorem Xub : ti9.ok Try.prog 9 := ⟨Try.underlying9, ⟨Try.t9, _, Xdb Try.type9, rfl, rfl, rfl, rfl⟩, rfl, rfl, by decide, trivial⟩
def Xux : TI := ⟨.slice 5, 1, 24, [.nil], .none⟩
theorem Xtn : Xux.ok Try.prog 22 := ⟨Try.underlying22, ⟨Try.t22, _, Xdb Try.type22, rfl, rfl, rfl, rfl⟩, rfl, rfl, by decide, trivial⟩
def Xuy : TI := ⟨.slice 3, 1, 24, [.nil], .none⟩
theorem Xto : Xuy.ok Try.prog 28 := ⟨Try.underlying28, ⟨Try.t28, _, Xdb Try.type28, rfl, rfl, rfl, rfl⟩, rfl, rfl, by decide, trivial⟩
def Xuz : TI := ⟨.slice 112, 1, 24, [.nil], .none⟩
theorem Xtp : Xuz.ok Try.prog 47 := ⟨Try.underlying47, ⟨Try.t47, _, Xdb Try.type47, rfl, rfl, rfl, rfl⟩, rfl, rfl, by decide, trivial⟩
def Xu0 : TI := ⟨.struct [(0, 4, 1), (1, 3, 1), (2, 4, 1), (3, 4, 1)], 4, 24, [.bool false, .int .i64 0, .bool false, .bool false], .none⟩
theorem Xtq : Xu0.ok Try.prog 49 := ⟨⟨_, Try.underlying49, rfl, fun w => by simp [Try.sizeOf3, Try.sizeOf4]⟩, ⟨Try.t49, _, Xdb Try.type49, rfl, rfl, rfl, rfl⟩, rfl, rfl, by decide, trivial⟩
def Xu1 : TI := ⟨.slice 114, 1, 24, [.nil], .none⟩
theorem Xtr : Xu1.ok Try.prog 52 := ⟨Try.underlying52, ⟨Try.t52, _, Xdb Try.type52, rfl, rfl, rfl, rfl⟩, rfl, rfl, by decide, trivial⟩
def Xu2 : TI := ⟨.struct [(0, 4, 1), (1, 3, 1), (2, 4, 1), (3, 4, 1)], 4, 24, [.bool false, .int .i64 0, .bool false, .bool false], .none⟩
theorem Xts : Xu2.ok Try.prog 54 := ⟨⟨_, Try.underlying54, rfl, fun w => by simp [Try.sizeOf3, Try.sizeOf4]⟩, ⟨Try.t54, _, Xdb Try.type54, rfl, rfl, rfl, rfl⟩, rfl, rfl, by decide, trivial⟩
def Xt6 : TI := ⟨.struct [(0, 3, 1), (1, 3, 1), (2, 3, 1), (3, 3, 1), (4, 28, 1)], 5, 56, [.int .i64 0, .int .i64 0, .int .i64 0, .int .i64 0, .nil], .row Xas⟩
theorem Xsk : Xt6.ok Try.prog 112 := ⟨⟨_, Try.underlying112, rfl, fun w => by simp [Try.sizeOf28, Try.sizeOf3]⟩, ⟨Try.t112, _, Xdb Try.type112, rfl, rfl, rfl, rfl⟩, rfl, rfl, by decide, ⟨Xg1, rfl, Xi2⟩⟩
def Xt7 : TI := ⟨.struct [(0, 3, 1), (1, 3, 1), (2, 3, 1), (3, 3, 1), (4, 28, 1)], 5, 56, [.int .i64 0, .int .i64 0, .int .i64 0, .int .i64 0, .nil], .row Xas⟩
theorem Xsl : Xt7.ok Try.prog 114 := ⟨⟨_, Try.underlying114, rfl, fun w => by simp [Try.sizeOf28, Try.sizeOf3]⟩, ⟨Try.t114, _, Xdb Try.type114, rfl, rfl, rfl, rfl⟩, rfl, rfl, by decide, ⟨Xg1, rfl, Xi2⟩⟩
def T : Nat → Option TI := lkT [(3, ti3), (4, ti4), (9, ti9), (5, ti5), (22, Xux), (28, Xuy), (47, Xuz), (49, Xu0), (52, Xu1), (54, Xu2), (112, Xt6), (114, Xt7)]
theorem hT : TOk Try.prog T := Xtc (by
 intro p hp
 simp only [List.mem_cons, List.not_mem_nil, or_false] at hp
 rcases hp with rfl | rfl | rfl | rfl | rfl | rfl | rfl | rfl | rfl | rfl | rfl | rfl
 ·
  exact Xt8
 ·
  exact Xt9
 ·
  exact Xub
 ·
  exact Xua
 ·
  exact Xtn
 ·
  exact Xto
 ·
  exact Xtp
 ·
  exact Xtq
 ·
  exact Xtr
 ·
  exact Xts
 ·
  exact Xsk
 ·
  exact Xsl)
theorem hm : Try.prog.follows .mixedOrders = true := by kernel_rfl
end Go.Proofs.Ytlebkepfhdjnmab.A
