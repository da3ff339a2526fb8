/- The types of the program, as the abstract logic reads them. Written by a program of this session. Conditions: none. -/
import Derived.Test.YtlebkepfhdjnmacDFnStill
import Derived.Test.YtlebkepfhdjnmacRows
import Derived.KernelRfl
namespace Go.Proofs.Ytlebkepfhdjnmac.A
open Go Go.Proofs Go.Proofs.YtlebkepfhdjnmacAL Go.RowKit
set_option linter.unusedVariables false
set_option linter.unusedSimpArgs false
def Xq2 (x : (List Int)) : List SV := [.ints .i64 x]
def Ybt : List SV → Option (List Int)
 | [x0] => (match gL .i64 x0 with | some a0 => some a0 | _ => none)
 | _ => none
abbrev Xlg : Xqv := ⟨(List Int), Xvz, 1, Xq2, Ybt⟩
theorem Yed : Xlg.ok := by
 refine ⟨fun _ => rfl, by decide, fun cs x h => ?_⟩
 change Ybt cs = some x at h
 unfold Ybt at h
 split at h
 ·
  split at h
  ·
   cases h
   refine ⟨rfl, fun j y hy => ?_⟩
   change (Xq2 _)[j]? = some y at hy
   rcases j with _ | _
   ·
    cases hy; exact ⟨_, rfl, Yfo (by assumption)⟩
   ·
    simp [Xq2] at hy
  ·
   cases h
 ·
  cases h
theorem Ycj : Xwb [.nil] (Xlg.enc Xlg.d) := by
 intro j y hy
 change (Xq2 _)[j]? = some y at hy
 rcases j with _ | _
 ·
  cases hy; exact ⟨_, rfl, Yfo (k := .i64) rfl⟩
 ·
  simp [Xq2] at hy
theorem Yll (l : List (List Int)) : (l.filterMap fun y => Xlg.dec (Xlg.enc y)) = l := by
 rw [show (fun y => Xlg.dec (Xlg.enc y)) = some from funext fun y => rfl]; exact List.filterMap_some
def Xwn (x : Xan) : List SV := [.int .i64 x.Kind, .int .i64 x.Mode, .int .i64 x.Dx, .int .i64 x.Dy, .ints .i64 x.Levels]
def Yez : List SV → Option Xan
 | [x0, x1, x2, x3, x4] => (match gI .i64 x0, gI .i64 x1, gI .i64 x2, gI .i64 x3, gL .i64 x4 with | some a0, some a1, some a2, some a3, some a4 => some ⟨a0, a1, a2, a3, a4⟩ | _, _, _, _, _ => none)
 | _ => none
abbrev Xed : Xqv := ⟨Xan, Xp0, 5, Xwn, Yez⟩
theorem Ygu : Xed.ok := by
 refine ⟨fun _ => rfl, by decide, fun cs x h => ?_⟩
 change Yez cs = some x at h
 unfold Yez at h
 split at h
 ·
  split at h
  ·
   cases h
   refine ⟨rfl, fun j y hy => ?_⟩
   change (Xwn _)[j]? = some y at hy
   rcases j with _ | _ | _ | _ | _ | _
   ·
    cases hy; exact ⟨_, rfl, Yfn (by assumption)⟩
   ·
    cases hy; exact ⟨_, rfl, Yfn (by assumption)⟩
   ·
    cases hy; exact ⟨_, rfl, Yfn (by assumption)⟩
   ·
    cases hy; exact ⟨_, rfl, Yfn (by assumption)⟩
   ·
    cases hy; exact ⟨_, rfl, Yfo (by assumption)⟩
   ·
    simp [Xwn] at hy
  ·
   cases h
 ·
  cases h
theorem Yee : Xwb [.int .i64 0, .int .i64 0, .int .i64 0, .int .i64 0, .nil] (Xed.enc Xed.d) := by
 intro j y hy
 change (Xwn _)[j]? = some y at hy
 rcases j with _ | _ | _ | _ | _ | _
 ·
  cases hy; exact ⟨_, rfl, fun _ _ _ h => h⟩
 ·
  cases hy; exact ⟨_, rfl, fun _ _ _ h => h⟩
 ·
  cases hy; exact ⟨_, rfl, fun _ _ _ h => h⟩
 ·
  cases hy; exact ⟨_, rfl, fun _ _ _ h => h⟩
 ·
  cases hy; exact ⟨_, rfl, Yfo (k := .i64) rfl⟩
 ·
  simp [Xwn] at hy
theorem Xz6 (l : List Xan) : (l.filterMap fun y => Xed.dec (Xed.enc y)) = l := by
 rw [show (fun y => Xed.dec (Xed.enc y)) = some from funext fun y => rfl]; exact List.filterMap_some
def ti3 : TI := ⟨.int .i64, 1, 8, [.int .i64 0], .ints .i64⟩
theorem Ym8 : ti3.ok Try.prog 3 := ⟨Try.underlying3, ⟨Try.t3, _, Xew Try.type3, rfl, rfl, rfl, rfl⟩, rfl, rfl, by decide, ⟨rfl, rfl⟩⟩
def ti4 : TI := ⟨.bool, 1, 1, [.bool false], .none⟩
theorem Ym9 : ti4.ok Try.prog 4 := ⟨Try.underlying4, ⟨Try.t4, _, Xew Try.type4, rfl, rfl, rfl, rfl⟩, rfl, rfl, by decide, trivial⟩
def ti5 : TI := ⟨.int .u8, 1, 1, [.int .u8 0], .ints .u8⟩
theorem Yna : ti5.ok Try.prog 5 := ⟨Try.underlying5, ⟨Try.t5, _, Xew Try.type5, rfl, rfl, rfl, rfl⟩, rfl, rfl, by decide, ⟨rfl, rfl⟩⟩
def ti9 : TI := ⟨.str, 1, 16, [.str ⟨#[]⟩], .none⟩
theorem Ynb : ti9.ok Try.prog 9 := ⟨Try.underlying9, ⟨Try.t9, _, Xew Try.type9, rfl, rfl, rfl, rfl⟩, rfl, rfl, by decide, trivial⟩
def Yn0 : TI := ⟨.slice 5, 1, 24, [.nil], .none⟩
theorem Yl9 : Yn0.ok Try.prog 22 := ⟨Try.underlying22, ⟨Try.t22, _, Xew Try.type22, rfl, rfl, rfl, rfl⟩, rfl, rfl, by decide, trivial⟩
def Yn1 : TI := ⟨.struct [(0, 3, 1), (1, 3, 1), (2, 9, 1)], 3, 32, [.int .i64 0, .int .i64 0, .str ⟨#[]⟩], .none⟩
theorem Yma : Yn1.ok Try.prog 25 := ⟨⟨_, Try.underlying25, rfl, fun w => by simp [Try.sizeOf3, Try.sizeOf9]⟩, ⟨Try.t25, _, Xew Try.type25, rfl, rfl, rfl, rfl⟩, rfl, rfl, by decide, trivial⟩
def Yn2 : TI := ⟨.struct [(0, 4, 1), (1, 3, 1), (2, 4, 1), (3, 4, 1)], 4, 24, [.bool false, .int .i64 0, .bool false, .bool false], .none⟩
theorem Ymb : Yn2.ok Try.prog 29 := ⟨⟨_, Try.underlying29, rfl, fun w => by simp [Try.sizeOf3, Try.sizeOf4]⟩, ⟨Try.t29, _, Xew Try.type29, rfl, rfl, rfl, rfl⟩, rfl, rfl, by decide, trivial⟩
def Yn3 : TI := ⟨.slice 3, 1, 24, [.nil], .row Xlg⟩
theorem Ymc : Yn3.ok Try.prog 31 := ⟨Try.underlying31, ⟨Try.t31, _, Xew Try.type31, rfl, rfl, rfl, rfl⟩, rfl, rfl, by decide, ⟨Yed, rfl, Ycj⟩⟩
def Yn4 : TI := ⟨.struct [(0, 3, 1), (1, 3, 1), (2, 3, 1), (3, 3, 1), (4, 31, 1)], 5, 56, [.int .i64 0, .int .i64 0, .int .i64 0, .int .i64 0, .nil], .row Xed⟩
theorem Ymd : Yn4.ok Try.prog 35 := ⟨⟨_, Try.underlying35, rfl, fun w => by simp [Try.sizeOf3, Try.sizeOf31]⟩, ⟨Try.t35, _, Xew Try.type35, rfl, rfl, rfl, rfl⟩, rfl, rfl, by decide, ⟨Ygu, rfl, Yee⟩⟩
def Yn5 : TI := ⟨.slice 35, 1, 24, [.nil], .none⟩
theorem Yme : Yn5.ok Try.prog 42 := ⟨Try.underlying42, ⟨Try.t42, _, Xew Try.type42, rfl, rfl, rfl, rfl⟩, rfl, rfl, by decide, trivial⟩
def Yn6 : TI := ⟨.struct [(0, 3, 1), (1, 3, 1), (2, 3, 1), (3, 3, 1)], 4, 32, [.int .i64 0, .int .i64 0, .int .i64 0, .int .i64 0], .none⟩
theorem Ymf : Yn6.ok Try.prog 47 := ⟨⟨_, Try.underlying47, rfl, fun w => by simp [Try.sizeOf3]⟩, ⟨Try.t47, _, Xew Try.type47, rfl, rfl, rfl, rfl⟩, rfl, rfl, by decide, trivial⟩
def Yn7 : TI := ⟨.struct [(0, 3, 1), (1, 4, 1), (2, 4, 1), (3, 4, 1)], 4, 16, [.int .i64 0, .bool false, .bool false, .bool false], .none⟩
theorem Ymg : Yn7.ok Try.prog 53 := ⟨⟨_, Try.underlying53, rfl, fun w => by simp [Try.sizeOf3, Try.sizeOf4]⟩, ⟨Try.t53, _, Xew Try.type53, rfl, rfl, rfl, rfl⟩, rfl, rfl, by decide, trivial⟩
def Ym2 : TI := ⟨.struct [(0, 31, 1), (1, 31, 1), (2, 3, 1)], 3, 56, [.nil, .nil, .int .i64 0], .none⟩
theorem Ykp : Ym2.ok Try.prog 100 := ⟨⟨_, Try.underlying100, rfl, fun w => by simp [Try.sizeOf3, Try.sizeOf31]⟩, ⟨Try.t100, _, Xew Try.type100, rfl, rfl, rfl, rfl⟩, rfl, rfl, by decide, trivial⟩
def Ym3 : TI := ⟨.struct [(0, 22, 1), (1, 3, 1), (2, 3, 1)], 3, 40, [.nil, .int .i64 0, .int .i64 0], .none⟩
theorem Ykq : Ym3.ok Try.prog 136 := ⟨⟨_, Try.underlying136, rfl, fun w => by simp [Try.sizeOf22, Try.sizeOf3]⟩, ⟨Try.t136, _, Xew Try.type136, rfl, rfl, rfl, rfl⟩, rfl, rfl, by decide, trivial⟩
def Ym4 : TI := ⟨.slice 31, 1, 24, [.nil], .none⟩
theorem Ykr : Ym4.ok Try.prog 161 := ⟨Try.underlying161, ⟨Try.t161, _, Xew Try.type161, rfl, rfl, rfl, rfl⟩, rfl, rfl, by decide, trivial⟩
def Ym5 : TI := ⟨.arr 4 3, 4, 32, [.int .i64 0, .int .i64 0, .int .i64 0, .int .i64 0], .none⟩
theorem Yks : Ym5.ok Try.prog 163 := ⟨Try.underlying163, ⟨Try.t163, _, Xew Try.type163, rfl, rfl, rfl, rfl⟩, rfl, rfl, by decide, trivial⟩
def Ym6 : TI := ⟨.arr 3 3, 3, 24, [.int .i64 0, .int .i64 0, .int .i64 0], .none⟩
theorem Ykt : Ym6.ok Try.prog 173 := ⟨Try.underlying173, ⟨Try.t173, _, Xew Try.type173, rfl, rfl, rfl, rfl⟩, rfl, rfl, by decide, trivial⟩
def Ym7 : TI := ⟨.arr 6 173, 18, 144, [.int .i64 0, .int .i64 0, .int .i64 0, .int .i64 0, .int .i64 0, .int .i64 0, .int .i64 0, .int .i64 0, .int .i64 0, .int .i64 0, .int .i64 0, .int .i64 0, .int .i64 0, .int .i64 0, .int .i64 0, .int .i64 0, .int .i64 0, .int .i64 0], .none⟩
theorem Yku : Ym7.ok Try.prog 174 := ⟨Try.underlying174, ⟨Try.t174, _, Xew Try.type174, rfl, rfl, rfl, rfl⟩, rfl, rfl, by decide, trivial⟩
def T : Nat → Option TI := lkT [(3, ti3), (4, ti4), (9, ti9), (5, ti5), (22, Yn0), (25, Yn1), (29, Yn2), (31, Yn3), (35, Yn4), (42, Yn5), (47, Yn6), (53, Yn7), (100, Ym2), (136, Ym3), (161, Ym4), (163, Ym5), (173, Ym6), (174, Ym7)]
theorem hT : TOk Try.prog T := Ylr (by
 intro p hp
 simp only [List.mem_cons, List.not_mem_nil, or_false] at hp
 rcases hp with rfl | rfl | rfl | rfl | rfl | rfl | rfl | rfl | rfl | rfl | rfl | rfl | rfl | rfl | rfl | rfl | rfl | rfl
 ·
  exact Ym8
 ·
  exact Ym9
 ·
  exact Ynb
 ·
  exact Yna
 ·
  exact Yl9
 ·
  exact Yma
 ·
  exact Ymb
 ·
  exact Ymc
 ·
  exact Ymd
 ·
  exact Yme
 ·
  exact Ymf
 ·
  exact Ymg
 ·
  exact Ykp
 ·
  exact Ykq
 ·
  exact Ykr
 ·
  exact Yks
 ·
  exact Ykt
 ·
  exact Yku)
theorem hm : Try.prog.follows .mixedOrders = true := by kernel_rfl
theorem Yns (d : Nat) (w : World) (x0 y0 : Int) (x1 y1 : Int) (x2 y2 : ByteArray) : (Op.equalIn (d + 2) 25 (.agg #[.int .i64 x0, .int .i64 x1, .string x2]) (.agg #[.int .i64 y0, .int .i64 y1, .string y2])).run Try.prog w = .ok ((x0 == y0) && ((x1 == y1) && (x2.toList == y2.toList))) w := by
 refine Ymr Try.underlying25 (by kernel_rfl) ?_
 refine Yfl (by rfl) (by go_simp; rfl) (by go_simp; rfl) (by go_simp) ?_
 refine Yfl (by rfl) (by go_simp; rfl) (by go_simp; rfl) (by go_simp) ?_
 exact Yjx (by rfl) (by go_simp; rfl) (by go_simp; rfl) (by go_simp)
theorem Yms {x0 y0 : Int} {x1 y1 : Int} {x2 y2 : ByteArray} : EqT Try.prog 25 [.int .i64 x0, .int .i64 x1, .str x2] [.int .i64 y0, .int .i64 y1, .str y2] ((x0 == y0) && ((x1 == y1) && (x2.toList == y2.toList))) := ⟨by kernel_rfl, rfl, rfl, fun w => Yns 9998 w _ _ _ _ _ _⟩
end Go.Proofs.Ytlebkepfhdjnmac.A
