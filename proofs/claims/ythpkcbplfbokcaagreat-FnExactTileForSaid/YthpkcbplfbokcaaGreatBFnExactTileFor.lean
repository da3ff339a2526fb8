/- The types of the program, as the abstract logic reads them. Written by a program of this session. Conditions: none. -/
import Derived.Test.YthpkcbplfbokcaaGreatDFnExactTileFor
import Derived.Test.YthpkcbplfbokcaaGreatRows
import Derived.KernelRfl
namespace Go.Proofs.YthpkcbplfbokcaaGreat.A
open Go Go.Proofs Go.Proofs.YthpkcbplfbokcaaGreatAL Go.RowKit
set_option linter.unusedVariables false
set_option linter.unusedSimpArgs false
def Xst (x : (List Int)) : List SV := [.ints .i64 x]
def Yf9 : List SV → Option (List Int)
 | [x0] => (match gL .i64 x0 with | some a0 => some a0 | _ => none)
 | _ => none
abbrev Xmh : Xo7 := ⟨(List Int), Xy9, 1, Xst, Yf9⟩
theorem Yi6 : Xmh.ok := by
 refine ⟨fun _ => rfl, by decide, fun cs x h => ?_⟩
 change Yf9 cs = some x at h
 unfold Yf9 at h
 split at h
 ·
  split at h
  ·
   cases h
   refine ⟨rfl, fun j y hy => ?_⟩
   change (Xst _)[j]? = some y at hy
   rcases j with _ | _
   ·
    cases hy; exact ⟨_, rfl, Ykg (by assumption)⟩
   ·
    simp [Xst] at hy
  ·
   cases h
 ·
  cases h
theorem Yg6 : Xzn [.nil] (Xmh.enc Xmh.d) := by
 intro j y hy
 change (Xst _)[j]? = some y at hy
 rcases j with _ | _
 ·
  cases hy; exact ⟨_, rfl, Ykg (k := .i64) rfl⟩
 ·
  simp [Xst] at hy
theorem Yqk (l : List (List Int)) : (l.filterMap fun y => Xmh.dec (Xmh.enc y)) = l := by
 rw [show (fun y => Xmh.dec (Xmh.enc y)) = some from funext fun y => rfl]; exact List.filterMap_some
def Xzz (x : Xan) : List SV := [.int .i64 x.Kind, .int .i64 x.Mode, .int .i64 x.Dx, .int .i64 x.Dy, .ints .i64 x.Levels]
def Yjt : List SV → Option Xan
 | [x0, x1, x2, x3, x4] => (match gI .i64 x0, gI .i64 x1, gI .i64 x2, gI .i64 x3, gL .i64 x4 with | some a0, some a1, some a2, some a3, some a4 => some ⟨a0, a1, a2, a3, a4⟩ | _, _, _, _, _ => none)
 | _ => none
abbrev Xf9 : Xo7 := ⟨Xan, Xef, 5, Xzz, Yjt⟩
theorem Ylo : Xf9.ok := by
 refine ⟨fun _ => rfl, by decide, fun cs x h => ?_⟩
 change Yjt cs = some x at h
 unfold Yjt at h
 split at h
 ·
  split at h
  ·
   cases h
   refine ⟨rfl, fun j y hy => ?_⟩
   change (Xzz _)[j]? = some y at hy
   rcases j with _ | _ | _ | _ | _ | _
   ·
    cases hy; exact ⟨_, rfl, Ykf (by assumption)⟩
   ·
    cases hy; exact ⟨_, rfl, Ykf (by assumption)⟩
   ·
    cases hy; exact ⟨_, rfl, Ykf (by assumption)⟩
   ·
    cases hy; exact ⟨_, rfl, Ykf (by assumption)⟩
   ·
    cases hy; exact ⟨_, rfl, Ykg (by assumption)⟩
   ·
    simp [Xzz] at hy
  ·
   cases h
 ·
  cases h
theorem Yi7 : Xzn [.int .i64 0, .int .i64 0, .int .i64 0, .int .i64 0, .nil] (Xf9.enc Xf9.d) := by
 intro j y hy
 change (Xzz _)[j]? = some y at hy
 rcases j with _ | _ | _ | _ | _ | _
 ·
  cases hy; exact ⟨_, rfl, fun _ _ _ h => h⟩
 ·
  cases hy; exact ⟨_, rfl, fun _ _ _ h => h⟩
 ·
  cases hy; exact ⟨_, rfl, fun _ _ _ h => h⟩
 ·
  cases hy; exact ⟨_, rfl, fun _ _ _ h => h⟩
 ·
  cases hy; exact ⟨_, rfl, Ykg (k := .i64) rfl⟩
 ·
  simp [Xzz] at hy
theorem Yeg (l : List Xan) : (l.filterMap fun y => Xf9.dec (Xf9.enc y)) = l := by
 rw [show (fun y => Xf9.dec (Xf9.enc y)) = some from funext fun y => rfl]; exact List.filterMap_some
abbrev Xbf : Xer := ⟨Xan, Xef, 4, fun x => [.int .i64 x.Kind, .int .i64 x.Mode, .int .i64 x.Dx, .int .i64 x.Dy], fun x => x.Levels⟩
theorem Xu2 : ∀ x, (Xbf.enc x).length = Xbf.m := fun _ => rfl
def ti3 : TI := ⟨.int .i64, 1, 8, [.int .i64 0], .ints .i64⟩
theorem Yr1 : ti3.ok Tryz.prog 3 := ⟨Tryz.underlying3, ⟨Tryz.t3, _, Xfl Tryz.type3, rfl, rfl, rfl, rfl⟩, rfl, rfl, by decide, ⟨rfl, rfl⟩⟩
def ti4 : TI := ⟨.bool, 1, 1, [.bool false], .none⟩
theorem Yr2 : ti4.ok Tryz.prog 4 := ⟨Tryz.underlying4, ⟨Tryz.t4, _, Xfl Tryz.type4, rfl, rfl, rfl, rfl⟩, rfl, rfl, by decide, trivial⟩
def ti5 : TI := ⟨.int .u8, 1, 1, [.int .u8 0], .ints .u8⟩
theorem Yr3 : ti5.ok Tryz.prog 5 := ⟨Tryz.underlying5, ⟨Tryz.t5, _, Xfl Tryz.type5, rfl, rfl, rfl, rfl⟩, rfl, rfl, by decide, ⟨rfl, rfl⟩⟩
def ti9 : TI := ⟨.str, 1, 16, [.str ⟨#[]⟩], .none⟩
theorem Yr4 : ti9.ok Tryz.prog 9 := ⟨Tryz.underlying9, ⟨Tryz.t9, _, Xfl Tryz.type9, rfl, rfl, rfl, rfl⟩, rfl, rfl, by decide, trivial⟩
def Yst : TI := ⟨.struct [(0, 3, 1), (1, 3, 1), (2, 9, 1)], 3, 32, [.int .i64 0, .int .i64 0, .str ⟨#[]⟩], .none⟩
theorem Yq6 : Yst.ok Tryz.prog 23 := ⟨⟨_, Tryz.underlying23, rfl, fun w => by simp [Tryz.sizeOf3, Tryz.sizeOf9]⟩, ⟨Tryz.t23, _, Xfl Tryz.type23, rfl, rfl, rfl, rfl⟩, rfl, rfl, by decide, trivial⟩
def Ysu : TI := ⟨.struct [(0, 4, 1), (1, 3, 1), (2, 4, 1), (3, 4, 1)], 4, 24, [.bool false, .int .i64 0, .bool false, .bool false], .none⟩
theorem Yq7 : Ysu.ok Tryz.prog 25 := ⟨⟨_, Tryz.underlying25, rfl, fun w => by simp [Tryz.sizeOf3, Tryz.sizeOf4]⟩, ⟨Tryz.t25, _, Xfl Tryz.type25, rfl, rfl, rfl, rfl⟩, rfl, rfl, by decide, trivial⟩
def Ysv : TI := ⟨.slice 45, 1, 24, [.nil], .none⟩
theorem Yq8 : Ysv.ok Tryz.prog 27 := ⟨Tryz.underlying27, ⟨Tryz.t27, _, Xfl Tryz.type27, rfl, rfl, rfl, rfl⟩, rfl, rfl, by decide, trivial⟩
def Ysw : TI := ⟨.struct [(0, 3, 1), (1, 3, 1), (2, 9, 1)], 3, 32, [.int .i64 0, .int .i64 0, .str ⟨#[]⟩], .none⟩
theorem Yq9 : Ysw.ok Tryz.prog 28 := ⟨⟨_, Tryz.underlying28, rfl, fun w => by simp [Tryz.sizeOf3, Tryz.sizeOf9]⟩, ⟨Tryz.t28, _, Xfl Tryz.type28, rfl, rfl, rfl, rfl⟩, rfl, rfl, by decide, trivial⟩
def Ysx : TI := ⟨.struct [(0, 4, 1), (1, 3, 1), (2, 4, 1), (3, 4, 1)], 4, 24, [.bool false, .int .i64 0, .bool false, .bool false], .none⟩
theorem Yra : Ysx.ok Tryz.prog 32 := ⟨⟨_, Tryz.underlying32, rfl, fun w => by simp [Tryz.sizeOf3, Tryz.sizeOf4]⟩, ⟨Tryz.t32, _, Xfl Tryz.type32, rfl, rfl, rfl, rfl⟩, rfl, rfl, by decide, trivial⟩
def Ysy : TI := ⟨.slice 3, 1, 24, [.nil], .row Xmh⟩
theorem Yrb : Ysy.ok Tryz.prog 43 := ⟨Tryz.underlying43, ⟨Tryz.t43, _, Xfl Tryz.type43, rfl, rfl, rfl, rfl⟩, rfl, rfl, by decide, ⟨Yi6, rfl, Yg6⟩⟩
def Ysz : TI := ⟨.struct [(0, 3, 1), (1, 3, 1), (2, 3, 1), (3, 3, 1), (4, 43, 1)], 5, 56, [.int .i64 0, .int .i64 0, .int .i64 0, .int .i64 0, .nil], .row Xf9⟩
theorem Yrc : Ysz.ok Tryz.prog 45 := ⟨⟨_, Tryz.underlying45, rfl, fun w => by simp [Tryz.sizeOf3, Tryz.sizeOf43]⟩, ⟨Tryz.t45, _, Xfl Tryz.type45, rfl, rfl, rfl, rfl⟩, rfl, rfl, by decide, ⟨Ylo, rfl, Yi7⟩⟩
def Ys0 : TI := ⟨.slice 5, 1, 24, [.nil], .none⟩
theorem Yrd : Ys0.ok Tryz.prog 60 := ⟨Tryz.underlying60, ⟨Tryz.t60, _, Xfl Tryz.type60, rfl, rfl, rfl, rfl⟩, rfl, rfl, by decide, trivial⟩
def Ys1 : TI := ⟨.struct [(0, 43, 1), (1, 43, 1), (2, 3, 1)], 3, 56, [.nil, .nil, .int .i64 0], .none⟩
theorem Yre : Ys1.ok Tryz.prog 64 := ⟨⟨_, Tryz.underlying64, rfl, fun w => by simp [Tryz.sizeOf3, Tryz.sizeOf43]⟩, ⟨Tryz.t64, _, Xfl Tryz.type64, rfl, rfl, rfl, rfl⟩, rfl, rfl, by decide, trivial⟩
def Ys2 : TI := ⟨.struct [(0, 3, 1), (1, 3, 1), (2, 3, 1), (3, 3, 1)], 4, 32, [.int .i64 0, .int .i64 0, .int .i64 0, .int .i64 0], .none⟩
theorem Yrf : Ys2.ok Tryz.prog 89 := ⟨⟨_, Tryz.underlying89, rfl, fun w => by simp [Tryz.sizeOf3]⟩, ⟨Tryz.t89, _, Xfl Tryz.type89, rfl, rfl, rfl, rfl⟩, rfl, rfl, by decide, trivial⟩
def Ys3 : TI := ⟨.slice 43, 1, 24, [.nil], .none⟩
theorem Yrg : Ys3.ok Tryz.prog 93 := ⟨Tryz.underlying93, ⟨Tryz.t93, _, Xfl Tryz.type93, rfl, rfl, rfl, rfl⟩, rfl, rfl, by decide, trivial⟩
def Ys4 : TI := ⟨.arr 4 3, 4, 32, [.int .i64 0, .int .i64 0, .int .i64 0, .int .i64 0], .none⟩
theorem Yrh : Ys4.ok Tryz.prog 97 := ⟨Tryz.underlying97, ⟨Tryz.t97, _, Xfl Tryz.type97, rfl, rfl, rfl, rfl⟩, rfl, rfl, by decide, trivial⟩
def Ys5 : TI := ⟨.int .u64, 1, 8, [.int .u64 0], .ints .u64⟩
theorem Yri : Ys5.ok Tryz.prog 99 := ⟨Tryz.underlying99, ⟨Tryz.t99, _, Xfl Tryz.type99, rfl, rfl, rfl, rfl⟩, rfl, rfl, by decide, ⟨rfl, rfl⟩⟩
def Yrz : TI := ⟨.arr 3 3, 3, 24, [.int .i64 0, .int .i64 0, .int .i64 0], .none⟩
theorem Ypo : Yrz.ok Tryz.prog 101 := ⟨Tryz.underlying101, ⟨Tryz.t101, _, Xfl Tryz.type101, rfl, rfl, rfl, rfl⟩, rfl, rfl, by decide, trivial⟩
def Yr0 : TI := ⟨.arr 6 101, 18, 144, [.int .i64 0, .int .i64 0, .int .i64 0, .int .i64 0, .int .i64 0, .int .i64 0, .int .i64 0, .int .i64 0, .int .i64 0, .int .i64 0, .int .i64 0, .int .i64 0, .int .i64 0, .int .i64 0, .int .i64 0, .int .i64 0, .int .i64 0, .int .i64 0], .none⟩
theorem Ypp : Yr0.ok Tryz.prog 102 := ⟨Tryz.underlying102, ⟨Tryz.t102, _, Xfl Tryz.type102, rfl, rfl, rfl, rfl⟩, rfl, rfl, by decide, trivial⟩
def T : Nat → Option TI := lkT [(3, ti3), (4, ti4), (9, ti9), (5, ti5), (23, Yst), (25, Ysu), (27, Ysv), (28, Ysw), (32, Ysx), (43, Ysy), (45, Ysz), (60, Ys0), (64, Ys1), (89, Ys2), (93, Ys3), (97, Ys4), (99, Ys5), (101, Yrz), (102, Yr0)]
theorem hT : TOk Tryz.prog T := Yqs (by
 intro p hp
 simp only [List.mem_cons, List.not_mem_nil, or_false] at hp
 rcases hp with rfl | rfl | rfl | rfl | rfl | rfl | rfl | rfl | rfl | rfl | rfl | rfl | rfl | rfl | rfl | rfl | rfl | rfl | rfl
 ·
  exact Yr1
 ·
  exact Yr2
 ·
  exact Yr4
 ·
  exact Yr3
 ·
  exact Yq6
 ·
  exact Yq7
 ·
  exact Yq8
 ·
  exact Yq9
 ·
  exact Yra
 ·
  exact Yrb
 ·
  exact Yrc
 ·
  exact Yrd
 ·
  exact Yre
 ·
  exact Yrf
 ·
  exact Yrg
 ·
  exact Yrh
 ·
  exact Yri
 ·
  exact Ypo
 ·
  exact Ypp)
theorem hm : Tryz.prog.follows .mixedOrders = true := by kernel_rfl
end Go.Proofs.YthpkcbplfbokcaaGreat.A
