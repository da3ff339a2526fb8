/- The types of the program, as the abstract logic reads them. Written by a program of this session. Conditions: none. -/
import Derived.Test.YtlebkepfhdjnmabDFnExactSourceNew
import Derived.Test.YtlebkepfhdjnmabRows
import Derived.KernelRfl
namespace Go.Proofs.Ytlebkepfhdjnmab.A
open Go Go.Proofs Go.Proofs.YtlebkepfhdjnmabAL Go.RowKit
set_option linter.unusedVariables false
set_option linter.unusedSimpArgs false
def Xf8 (x : (List Int)) : List SV := [.ints .i64 x]
def Xmc : List SV → Option (List Int)
 | [x0] => (match gL .i64 x0 with | some a0 => some a0 | _ => none)
 | _ => none
abbrev Xdf : Xgp := ⟨(List Int), Xeb, 1, Xf8, Xmc⟩
theorem Xn0 : Xdf.ok := by
 refine ⟨fun _ => rfl, by decide, fun cs x h => ?_⟩
 change Xmc cs = some x at h
 unfold Xmc at h
 split at h
 ·
  split at h
  ·
   cases h
   refine ⟨rfl, fun j y hy => ?_⟩
   change (Xf8 _)[j]? = some y at hy
   rcases j with _ | _
   ·
    cases hy; exact ⟨_, rfl, Xr1 (by assumption)⟩
   ·
    simp [Xf8] at hy
  ·
   cases h
 ·
  cases h
theorem Xmw : Xk4 [.nil] (Xdf.enc Xdf.d) := by
 intro j y hy
 change (Xf8 _)[j]? = some y at hy
 rcases j with _ | _
 ·
  cases hy; exact ⟨_, rfl, Xr1 (k := .i64) rfl⟩
 ·
  simp [Xf8] at hy
theorem Xse (l : List (List Int)) : (l.filterMap fun y => Xdf.dec (Xdf.enc y)) = l := by
 rw [show (fun y => Xdf.dec (Xdf.enc y)) = some from funext fun y => rfl]; exact List.filterMap_some
def ti3 : TI := ⟨.int .i64, 1, 8, [.int .i64 0], .ints .i64⟩
theorem Xtk : ti3.ok Try.prog 3 := ⟨Try.underlying3, ⟨Try.t3, _, Xb7 Try.type3, rfl, rfl, rfl, rfl⟩, rfl, rfl, by decide, ⟨rfl, rfl⟩⟩
def ti4 : TI := ⟨.bool, 1, 1, [.bool false], .none⟩
theorem Xtl : ti4.ok Try.prog 4 := ⟨Try.underlying4, ⟨Try.t4, _, Xb7 Try.type4, rfl, rfl, rfl, rfl⟩, rfl, rfl, by decide, trivial⟩
def ti9 : TI := ⟨.str, 1, 16, [.str ⟨#[]⟩], .none⟩
theorem Xtm : ti9.ok Try.prog 9 := ⟨Try.underlying9, ⟨Try.t9, _, Xb7 Try.type9, rfl, rfl, rfl, rfl⟩, rfl, rfl, by decide, trivial⟩
def Xt9 : TI := ⟨.struct [(0, 3, 1), (1, 3, 1), (2, 9, 1)], 3, 32, [.int .i64 0, .int .i64 0, .str ⟨#[]⟩], .none⟩
theorem Xsv : Xt9.ok Try.prog 25 := ⟨⟨_, Try.underlying25, rfl, fun w => by simp [Try.sizeOf3, Try.sizeOf9]⟩, ⟨Try.t25, _, Xb7 Try.type25, rfl, rfl, rfl, rfl⟩, rfl, rfl, by decide, trivial⟩
def Xua : TI := ⟨.slice 3, 1, 24, [.nil], .row Xdf⟩
theorem Xsw : Xua.ok Try.prog 28 := ⟨Try.underlying28, ⟨Try.t28, _, Xb7 Try.type28, rfl, rfl, rfl, rfl⟩, rfl, rfl, by decide, ⟨Xn0, rfl, Xmw⟩⟩
def Xub : TI := ⟨.struct [(0, 3, 1), (1, 4, 1), (2, 4, 1), (3, 4, 1)], 4, 16, [.int .i64 0, .bool false, .bool false, .bool false], .none⟩
theorem Xsx : Xub.ok Try.prog 59 := ⟨⟨_, Try.underlying59, rfl, fun w => by simp [Try.sizeOf3, Try.sizeOf4]⟩, ⟨Try.t59, _, Xb7 Try.type59, rfl, rfl, rfl, rfl⟩, rfl, rfl, by decide, trivial⟩
def Xuc : TI := ⟨.struct [(0, 3, 1), (1, 3, 1), (2, 3, 1)], 3, 24, [.int .i64 0, .int .i64 0, .int .i64 0], .none⟩
theorem Xsy : Xuc.ok Try.prog 61 := ⟨⟨_, Try.underlying61, rfl, fun w => by simp [Try.sizeOf3]⟩, ⟨Try.t61, _, Xb7 Try.type61, rfl, rfl, rfl, rfl⟩, rfl, rfl, by decide, trivial⟩
def Xud : TI := ⟨.struct [(0, 3, 1), (1, 3, 1), (2, 28, 1), (3, 28, 1)], 4, 64, [.int .i64 0, .int .i64 0, .nil, .nil], .none⟩
theorem Xsz : Xud.ok Try.prog 63 := ⟨⟨_, Try.underlying63, rfl, fun w => by simp [Try.sizeOf28, Try.sizeOf3]⟩, ⟨Try.t63, _, Xb7 Try.type63, rfl, rfl, rfl, rfl⟩, rfl, rfl, by decide, trivial⟩
def Xue : TI := ⟨.struct [(0, 3, 1), (1, 4, 1), (2, 4, 1), (3, 4, 1)], 4, 16, [.int .i64 0, .bool false, .bool false, .bool false], .none⟩
theorem Xs0 : Xue.ok Try.prog 64 := ⟨⟨_, Try.underlying64, rfl, fun w => by simp [Try.sizeOf3, Try.sizeOf4]⟩, ⟨Try.t64, _, Xb7 Try.type64, rfl, rfl, rfl, rfl⟩, rfl, rfl, by decide, trivial⟩
def Xuf : TI := ⟨.struct [(0, 3, 1), (1, 3, 1), (2, 3, 1)], 3, 24, [.int .i64 0, .int .i64 0, .int .i64 0], .none⟩
theorem Xs1 : Xuf.ok Try.prog 65 := ⟨⟨_, Try.underlying65, rfl, fun w => by simp [Try.sizeOf3]⟩, ⟨Try.t65, _, Xb7 Try.type65, rfl, rfl, rfl, rfl⟩, rfl, rfl, by decide, trivial⟩
def Xug : TI := ⟨.struct [(0, 63, 4), (4, 64, 4), (8, 65, 3), (11, 3, 1), (12, 3, 1), (13, 3, 1), (14, 3, 1), (15, 4, 1), (16, 25, 3)], 19, 176, [.int .i64 0, .int .i64 0, .nil, .nil, .int .i64 0, .bool false, .bool false, .bool false, .int .i64 0, .int .i64 0, .int .i64 0, .int .i64 0, .int .i64 0, .int .i64 0, .int .i64 0, .bool false, .int .i64 0, .int .i64 0, .str ⟨#[]⟩], .none⟩
theorem Xs2 : Xug.ok Try.prog 67 := ⟨⟨_, Try.underlying67, rfl, fun w => by simp [Try.sizeOf25, Try.sizeOf3, Try.sizeOf4, Try.sizeOf63, Try.sizeOf64, Try.sizeOf65]⟩, ⟨Try.t67, _, Xb7 Try.type67, rfl, rfl, rfl, rfl⟩, rfl, rfl, by decide, trivial⟩
def Xti : TI := ⟨.int .u64, 1, 8, [.int .u64 0], .ints .u64⟩
theorem Xrr : Xti.ok Try.prog 136 := ⟨Try.underlying136, ⟨Try.t136, _, Xb7 Try.type136, rfl, rfl, rfl, rfl⟩, rfl, rfl, by decide, ⟨rfl, rfl⟩⟩
def Xtj : TI := ⟨.slice 28, 1, 24, [.nil], .none⟩
theorem Xrs : Xtj.ok Try.prog 163 := ⟨Try.underlying163, ⟨Try.t163, _, Xb7 Try.type163, rfl, rfl, rfl, rfl⟩, rfl, rfl, by decide, trivial⟩
def T : Nat → Option TI := lkT [(3, ti3), (4, ti4), (9, ti9), (25, Xt9), (28, Xua), (59, Xub), (61, Xuc), (63, Xud), (64, Xue), (65, Xuf), (67, Xug), (136, Xti), (163, Xtj)]
theorem hT : TOk Try.prog T := Xsj (by
 intro p hp
 simp only [List.mem_cons, List.not_mem_nil, or_false] at hp
 rcases hp with rfl | rfl | rfl | rfl | rfl | rfl | rfl | rfl | rfl | rfl | rfl | rfl | rfl
 ·
  exact Xtk
 ·
  exact Xtl
 ·
  exact Xtm
 ·
  exact Xsv
 ·
  exact Xsw
 ·
  exact Xsx
 ·
  exact Xsy
 ·
  exact Xsz
 ·
  exact Xs0
 ·
  exact Xs1
 ·
  exact Xs2
 ·
  exact Xrr
 ·
  exact Xrs)
theorem hm : Try.prog.follows .mixedOrders = true := by kernel_rfl
theorem Xt0 (d : Nat) (w : World) (x0 y0 : Int) (x1 y1 : Int) (x2 y2 : ByteArray) : (Op.equalIn (d + 2) 25 (.agg #[.int .i64 x0, .int .i64 x1, .string x2]) (.agg #[.int .i64 y0, .int .i64 y1, .string y2])).run Try.prog w = .ok ((x0 == y0) && ((x1 == y1) && (x2.toList == y2.toList))) w := by
 refine Xs8 Try.underlying25 (by kernel_rfl) ?_
 refine Xoo (by rfl) (by go_simp; rfl) (by go_simp; rfl) (by go_simp) ?_
 refine Xoo (by rfl) (by go_simp; rfl) (by go_simp; rfl) (by go_simp) ?_
 exact Xrc (by rfl) (by go_simp; rfl) (by go_simp; rfl) (by go_simp)
theorem Xs9 {x0 y0 : Int} {x1 y1 : Int} {x2 y2 : ByteArray} : EqT Try.prog 25 [.int .i64 x0, .int .i64 x1, .str x2] [.int .i64 y0, .int .i64 y1, .str y2] ((x0 == y0) && ((x1 == y1) && (x2.toList == y2.toList))) := ⟨by kernel_rfl, rfl, rfl, fun w => Xt0 9998 w _ _ _ _ _ _⟩
end Go.Proofs.Ytlebkepfhdjnmab.A
