/- The types of the program, as the abstract logic reads them. Written by a program of this session. Conditions: none. -/
import Derived.Test.YtlebkepfhdjnmaaDFnQueues
import Derived.Test.YtlebkepfhdjnmaaRows
import Derived.KernelRfl
namespace Go.Proofs.Ytlebkepfhdjnmaa.A
open Go Go.Proofs Go.Proofs.YtlebkepfhdjnmaaAL Go.RowKit
set_option linter.unusedVariables false
set_option linter.unusedSimpArgs false
def Xku (x : Xaa) : List SV := [.int .i64 x.Seq, .bool x.First, .bool x.Last, .str x.Bytes]
def Xpn : List SV → Option Xaa
 | [x0, x1, x2, x3] => (match gI .i64 x0, gB x1, gB x2, gS x3 with | some a0, some a1, some a2, some a3 => some ⟨a0, a1, a2, a3⟩ | _, _, _, _ => none)
 | _ => none
abbrev Xae : Xhs := ⟨Xaa, Xad, 4, Xku, Xpn⟩
theorem Xik : Xae.ok := by
 refine ⟨fun _ => rfl, by decide, fun cs x h => ?_⟩
 change Xpn cs = some x at h
 unfold Xpn at h
 split at h
 ·
  split at h
  ·
   cases h
   refine ⟨rfl, fun j y hy => ?_⟩
   change (Xku _)[j]? = some y at hy
   rcases j with _ | _ | _ | _ | _
   ·
    cases hy; exact ⟨_, rfl, Xva (by assumption)⟩
   ·
    cases hy; exact ⟨_, rfl, Xt0 (by assumption)⟩
   ·
    cases hy; exact ⟨_, rfl, Xt0 (by assumption)⟩
   ·
    cases hy; exact ⟨_, rfl, Xvb (by assumption)⟩
   ·
    simp [Xku] at hy
  ·
   cases h
 ·
  cases h
theorem Xpa : Xmb [.int .i64 0, .bool false, .bool false, .str ⟨#[]⟩] (Xae.enc Xae.d) := by
 intro j y hy
 change (Xku _)[j]? = some y at hy
 rcases j with _ | _ | _ | _ | _
 ·
  cases hy; exact ⟨_, rfl, fun _ _ _ h => h⟩
 ·
  cases hy; exact ⟨_, rfl, fun _ _ _ h => h⟩
 ·
  cases hy; exact ⟨_, rfl, fun _ _ _ h => h⟩
 ·
  cases hy; exact ⟨_, rfl, fun _ _ _ h => h⟩
 ·
  simp [Xku] at hy
theorem Xao (l : List Xaa) : (l.filterMap fun y => Xae.dec (Xae.enc y)) = l := by
 rw [show (fun y => Xae.dec (Xae.enc y)) = some from funext fun y => rfl]; exact List.filterMap_some
def ti3 : TI := ⟨.int .i64, 1, 8, [.int .i64 0], .ints .i64⟩
theorem Xvh : ti3.ok Try.prog 3 := ⟨Try.underlying3, ⟨Try.t3, _, Xfp Try.type3, rfl, rfl, rfl, rfl⟩, rfl, rfl, by decide, ⟨rfl, rfl⟩⟩
def ti4 : TI := ⟨.bool, 1, 1, [.bool false], .none⟩
theorem Xvi : ti4.ok Try.prog 4 := ⟨Try.underlying4, ⟨Try.t4, _, Xfp Try.type4, rfl, rfl, rfl, rfl⟩, rfl, rfl, by decide, trivial⟩
def ti5 : TI := ⟨.int .u8, 1, 1, [.int .u8 0], .ints .u8⟩
theorem Xvj : ti5.ok Try.prog 5 := ⟨Try.underlying5, ⟨Try.t5, _, Xfp Try.type5, rfl, rfl, rfl, rfl⟩, rfl, rfl, by decide, ⟨rfl, rfl⟩⟩
def ti9 : TI := ⟨.str, 1, 16, [.str ⟨#[]⟩], .none⟩
theorem Xvk : ti9.ok Try.prog 9 := ⟨Try.underlying9, ⟨Try.t9, _, Xfp Try.type9, rfl, rfl, rfl, rfl⟩, rfl, rfl, by decide, trivial⟩
def Xv9 : TI := ⟨.slice 5, 1, 24, [.nil], .none⟩
theorem Xuv : Xv9.ok Try.prog 22 := ⟨Try.underlying22, ⟨Try.t22, _, Xfp Try.type22, rfl, rfl, rfl, rfl⟩, rfl, rfl, by decide, trivial⟩
def Xwa : TI := ⟨.slice 3, 1, 24, [.nil], .none⟩
theorem Xuw : Xwa.ok Try.prog 26 := ⟨Try.underlying26, ⟨Try.t26, _, Xfp Try.type26, rfl, rfl, rfl, rfl⟩, rfl, rfl, by decide, trivial⟩
def Xwb : TI := ⟨.slice 57, 1, 24, [.nil], .none⟩
theorem Xux : Xwb.ok Try.prog 38 := ⟨Try.underlying38, ⟨Try.t38, _, Xfp Try.type38, rfl, rfl, rfl, rfl⟩, rfl, rfl, by decide, trivial⟩
def Xwc : TI := ⟨.struct [(0, 4, 1), (1, 3, 1), (2, 3, 1), (3, 38, 1), (4, 3, 1), (5, 3, 1), (6, 3, 1), (7, 3, 1), (8, 3, 1)], 9, 88, [.bool false, .int .i64 0, .int .i64 0, .nil, .int .i64 0, .int .i64 0, .int .i64 0, .int .i64 0, .int .i64 0], .none⟩
theorem Xuy : Xwc.ok Try.prog 40 := ⟨⟨_, Try.underlying40, rfl, fun w => by simp [Try.sizeOf3, Try.sizeOf38, Try.sizeOf4]⟩, ⟨Try.t40, _, Xfp Try.type40, rfl, rfl, rfl, rfl⟩, rfl, rfl, by decide, trivial⟩
def Xwd : TI := ⟨.struct [(0, 3, 1), (1, 4, 1), (2, 4, 1), (3, 9, 1)], 4, 32, [.int .i64 0, .bool false, .bool false, .str ⟨#[]⟩], .row Xae⟩
theorem Xuz : Xwd.ok Try.prog 57 := ⟨⟨_, Try.underlying57, rfl, fun w => by simp [Try.sizeOf3, Try.sizeOf4, Try.sizeOf9]⟩, ⟨Try.t57, _, Xfp Try.type57, rfl, rfl, rfl, rfl⟩, rfl, rfl, by decide, ⟨Xik, rfl, Xpa⟩⟩
def Xwe : TI := ⟨.struct [(0, 22, 1), (1, 3, 1), (2, 3, 1)], 3, 40, [.nil, .int .i64 0, .int .i64 0], .none⟩
theorem Xu0 : Xwe.ok Try.prog 83 := ⟨⟨_, Try.underlying83, rfl, fun w => by simp [Try.sizeOf22, Try.sizeOf3]⟩, ⟨Try.t83, _, Xfp Try.type83, rfl, rfl, rfl, rfl⟩, rfl, rfl, by decide, trivial⟩
def T : Nat → Option TI := lkT [(3, ti3), (4, ti4), (9, ti9), (5, ti5), (22, Xv9), (26, Xwa), (38, Xwb), (40, Xwc), (57, Xwd), (83, Xwe)]
theorem hT : TOk Try.prog T := Xui (by
 intro p hp
 simp only [List.mem_cons, List.not_mem_nil, or_false] at hp
 rcases hp with rfl | rfl | rfl | rfl | rfl | rfl | rfl | rfl | rfl | rfl
 ·
  exact Xvh
 ·
  exact Xvi
 ·
  exact Xvk
 ·
  exact Xvj
 ·
  exact Xuv
 ·
  exact Xuw
 ·
  exact Xux
 ·
  exact Xuy
 ·
  exact Xuz
 ·
  exact Xu0)
theorem hm : Try.prog.follows .mixedOrders = true := by kernel_rfl
theorem Xv0 (d : Nat) (w : World) (x0 y0 : Int) (x1 y1 : Bool) (x2 y2 : Bool) (x3 y3 : ByteArray) : (Op.equalIn (d + 2) 57 (.agg #[.int .i64 x0, .bool x1, .bool x2, .string x3]) (.agg #[.int .i64 y0, .bool y1, .bool y2, .string y3])).run Try.prog w = .ok ((x0 == y0) && ((x1 == y1) && ((x2 == y2) && (x3.toList == y3.toList)))) w := by
 refine Xu7 Try.underlying57 (by kernel_rfl) ?_
 refine Xm6 (by rfl) (by go_simp; rfl) (by go_simp; rfl) (by go_simp) ?_
 refine Xm6 (by rfl) (by go_simp; rfl) (by go_simp; rfl) (by go_simp) ?_
 refine Xm6 (by rfl) (by go_simp; rfl) (by go_simp; rfl) (by go_simp) ?_
 exact Xta (by rfl) (by go_simp; rfl) (by go_simp; rfl) (by go_simp)
theorem Xu8 {x0 y0 : Int} {x1 y1 : Bool} {x2 y2 : Bool} {x3 y3 : ByteArray} : EqT Try.prog 57 [.int .i64 x0, .bool x1, .bool x2, .str x3] [.int .i64 y0, .bool y1, .bool y2, .str y3] ((x0 == y0) && ((x1 == y1) && ((x2 == y2) && (x3.toList == y3.toList)))) := ⟨by kernel_rfl, rfl, rfl, fun w => Xv0 9998 w _ _ _ _ _ _ _ _⟩
end Go.Proofs.Ytlebkepfhdjnmaa.A
