/- The types of the program, as the abstract logic reads them. Written by a program of this session. Conditions: none. -/
import Derived.Test.YtlebkepfhdjnmacDFnSends
import Derived.Test.YtlebkepfhdjnmacRows
import Derived.KernelRfl
namespace Go.Proofs.Ytlebkepfhdjnmac.A
open Go Go.Proofs Go.Proofs.YtlebkepfhdjnmacAL Go.RowKit
set_option linter.unusedVariables false
set_option linter.unusedSimpArgs false
def Xtg (x : (List Int)) : List SV := [.ints .i64 x]
def Ye0 : List SV → Option (List Int)
 | [x0] => (match gL .i64 x0 with | some a0 => some a0 | _ => none)
 | _ => none
abbrev Xmx : Xs9 := ⟨(List Int), Xyi, 1, Xtg, Ye0⟩
theorem Yhs : Xmx.ok := by
 refine ⟨fun _ => rfl, by decide, fun cs x h => ?_⟩
 change Ye0 cs = some x at h
 unfold Ye0 at h
 split at h
 ·
  split at h
  ·
   cases h
   refine ⟨rfl, fun j y hy => ?_⟩
   change (Xtg _)[j]? = some y at hy
   rcases j with _ | _
   ·
    cases hy; exact ⟨_, rfl, Yi0 (by assumption)⟩
   ·
    simp [Xtg] at hy
  ·
   cases h
 ·
  cases h
theorem Yfz : Xyr [.nil] (Xmx.enc Xmx.d) := by
 intro j y hy
 change (Xtg _)[j]? = some y at hy
 rcases j with _ | _
 ·
  cases hy; exact ⟨_, rfl, Yi0 (k := .i64) rfl⟩
 ·
  simp [Xtg] at hy
theorem Yo6 (l : List (List Int)) : (l.filterMap fun y => Xmx.dec (Xmx.enc y)) = l := by
 rw [show (fun y => Xmx.dec (Xmx.enc y)) = some from funext fun y => rfl]; exact List.filterMap_some
def Xy5 (x : Xam) : List SV := [.int .i64 x.Kind, .int .i64 x.Mode, .int .i64 x.Dx, .int .i64 x.Dy, .ints .i64 x.Levels]
def Yic : List SV → Option Xam
 | [x0, x1, x2, x3, x4] => (match gI .i64 x0, gI .i64 x1, gI .i64 x2, gI .i64 x3, gL .i64 x4 with | some a0, some a1, some a2, some a3, some a4 => some ⟨a0, a1, a2, a3, a4⟩ | _, _, _, _, _ => none)
 | _ => none
abbrev Xcx : Xs9 := ⟨Xam, Xji, 5, Xy5, Yic⟩
theorem Yj4 : Xcx.ok := by
 refine ⟨fun _ => rfl, by decide, fun cs x h => ?_⟩
 change Yic cs = some x at h
 unfold Yic at h
 split at h
 ·
  split at h
  ·
   cases h
   refine ⟨rfl, fun j y hy => ?_⟩
   change (Xy5 _)[j]? = some y at hy
   rcases j with _ | _ | _ | _ | _ | _
   ·
    cases hy; exact ⟨_, rfl, Yiz (by assumption)⟩
   ·
    cases hy; exact ⟨_, rfl, Yiz (by assumption)⟩
   ·
    cases hy; exact ⟨_, rfl, Yiz (by assumption)⟩
   ·
    cases hy; exact ⟨_, rfl, Yiz (by assumption)⟩
   ·
    cases hy; exact ⟨_, rfl, Yi0 (by assumption)⟩
   ·
    simp [Xy5] at hy
  ·
   cases h
 ·
  cases h
theorem Yht : Xyr [.int .i64 0, .int .i64 0, .int .i64 0, .int .i64 0, .nil] (Xcx.enc Xcx.d) := by
 intro j y hy
 change (Xy5 _)[j]? = some y at hy
 rcases j with _ | _ | _ | _ | _ | _
 ·
  cases hy; exact ⟨_, rfl, fun _ _ _ h => h⟩
 ·
  cases hy; exact ⟨_, rfl, fun _ _ _ h => h⟩
 ·
  cases hy; exact ⟨_, rfl, fun _ _ _ h => h⟩
 ·
  cases hy; exact ⟨_, rfl, fun _ _ _ h => h⟩
 ·
  cases hy; exact ⟨_, rfl, Yi0 (k := .i64) rfl⟩
 ·
  simp [Xy5] at hy
theorem Xqz (l : List Xam) : (l.filterMap fun y => Xcx.dec (Xcx.enc y)) = l := by
 rw [show (fun y => Xcx.dec (Xcx.enc y)) = some from funext fun y => rfl]; exact List.filterMap_some
def ti3 : TI := ⟨.int .i64, 1, 8, [.int .i64 0], .ints .i64⟩
theorem Yqx : ti3.ok Try.prog 3 := ⟨Try.underlying3, ⟨Try.t3, _, Xfc Try.type3, rfl, rfl, rfl, rfl⟩, rfl, rfl, by decide, ⟨rfl, rfl⟩⟩
def ti4 : TI := ⟨.bool, 1, 1, [.bool false], .none⟩
theorem Yqy : ti4.ok Try.prog 4 := ⟨Try.underlying4, ⟨Try.t4, _, Xfc Try.type4, rfl, rfl, rfl, rfl⟩, rfl, rfl, by decide, trivial⟩
def ti5 : TI := ⟨.int .u8, 1, 1, [.int .u8 0], .ints .u8⟩
theorem Yqz : ti5.ok Try.prog 5 := ⟨Try.underlying5, ⟨Try.t5, _, Xfc Try.type5, rfl, rfl, rfl, rfl⟩, rfl, rfl, by decide, ⟨rfl, rfl⟩⟩
def ti9 : TI := ⟨.str, 1, 16, [.str ⟨#[]⟩], .none⟩
theorem Yq0 : ti9.ok Try.prog 9 := ⟨Try.underlying9, ⟨Try.t9, _, Xfc Try.type9, rfl, rfl, rfl, rfl⟩, rfl, rfl, by decide, trivial⟩
def Yrq : TI := ⟨.slice 5, 1, 24, [.nil], .none⟩
theorem Ypt : Yrq.ok Try.prog 22 := ⟨Try.underlying22, ⟨Try.t22, _, Xfc Try.type22, rfl, rfl, rfl, rfl⟩, rfl, rfl, by decide, trivial⟩
def Yrr : TI := ⟨.struct [(0, 3, 1), (1, 3, 1), (2, 9, 1)], 3, 32, [.int .i64 0, .int .i64 0, .str ⟨#[]⟩], .none⟩
theorem Ypu : Yrr.ok Try.prog 25 := ⟨⟨_, Try.underlying25, rfl, fun w => by simp [Try.sizeOf3, Try.sizeOf9]⟩, ⟨Try.t25, _, Xfc Try.type25, rfl, rfl, rfl, rfl⟩, rfl, rfl, by decide, trivial⟩
def Yrs : TI := ⟨.struct [(0, 4, 1), (1, 3, 1), (2, 4, 1), (3, 4, 1)], 4, 24, [.bool false, .int .i64 0, .bool false, .bool false], .none⟩
theorem Ypv : Yrs.ok Try.prog 29 := ⟨⟨_, Try.underlying29, rfl, fun w => by simp [Try.sizeOf3, Try.sizeOf4]⟩, ⟨Try.t29, _, Xfc Try.type29, rfl, rfl, rfl, rfl⟩, rfl, rfl, by decide, trivial⟩
def Yrt : TI := ⟨.slice 3, 1, 24, [.nil], .row Xmx⟩
theorem Ypw : Yrt.ok Try.prog 31 := ⟨Try.underlying31, ⟨Try.t31, _, Xfc Try.type31, rfl, rfl, rfl, rfl⟩, rfl, rfl, by decide, ⟨Yhs, rfl, Yfz⟩⟩
def Yru : TI := ⟨.struct [(0, 3, 1), (1, 3, 1), (2, 3, 1), (3, 3, 1), (4, 31, 1)], 5, 56, [.int .i64 0, .int .i64 0, .int .i64 0, .int .i64 0, .nil], .row Xcx⟩
theorem Ypx : Yru.ok Try.prog 35 := ⟨⟨_, Try.underlying35, rfl, fun w => by simp [Try.sizeOf3, Try.sizeOf31]⟩, ⟨Try.t35, _, Xfc Try.type35, rfl, rfl, rfl, rfl⟩, rfl, rfl, by decide, ⟨Yj4, rfl, Yht⟩⟩
def Yrv : TI := ⟨.slice 35, 1, 24, [.nil], .none⟩
theorem Ypy : Yrv.ok Try.prog 42 := ⟨Try.underlying42, ⟨Try.t42, _, Xfc Try.type42, rfl, rfl, rfl, rfl⟩, rfl, rfl, by decide, trivial⟩
def Yrw : TI := ⟨.struct [(0, 3, 1), (1, 3, 1), (2, 3, 1), (3, 3, 1)], 4, 32, [.int .i64 0, .int .i64 0, .int .i64 0, .int .i64 0], .none⟩
theorem Ypz : Yrw.ok Try.prog 47 := ⟨⟨_, Try.underlying47, rfl, fun w => by simp [Try.sizeOf3]⟩, ⟨Try.t47, _, Xfc Try.type47, rfl, rfl, rfl, rfl⟩, rfl, rfl, by decide, trivial⟩
def Yrx : TI := ⟨.struct [(0, 3, 1), (1, 4, 1), (2, 4, 1), (3, 4, 1)], 4, 16, [.int .i64 0, .bool false, .bool false, .bool false], .none⟩
theorem Yp0 : Yrx.ok Try.prog 53 := ⟨⟨_, Try.underlying53, rfl, fun w => by simp [Try.sizeOf3, Try.sizeOf4]⟩, ⟨Try.t53, _, Xfc Try.type53, rfl, rfl, rfl, rfl⟩, rfl, rfl, by decide, trivial⟩
def Yqq : TI := ⟨.struct [(0, 31, 1), (1, 31, 1), (2, 3, 1)], 3, 56, [.nil, .nil, .int .i64 0], .none⟩
theorem Yn5 : Yqq.ok Try.prog 100 := ⟨⟨_, Try.underlying100, rfl, fun w => by simp [Try.sizeOf3, Try.sizeOf31]⟩, ⟨Try.t100, _, Xfc Try.type100, rfl, rfl, rfl, rfl⟩, rfl, rfl, by decide, trivial⟩
def Yqr : TI := ⟨.struct [(0, 9, 1), (1, 3, 1), (2, 4, 1)], 3, 32, [.str ⟨#[]⟩, .int .i64 0, .bool false], .none⟩
theorem Yn6 : Yqr.ok Try.prog 128 := ⟨⟨_, Try.underlying128, rfl, fun w => by simp [Try.sizeOf3, Try.sizeOf4, Try.sizeOf9]⟩, ⟨Try.t128, _, Xfc Try.type128, rfl, rfl, rfl, rfl⟩, rfl, rfl, by decide, trivial⟩
def Yqs : TI := ⟨.struct [(0, 22, 1), (1, 3, 1), (2, 3, 1)], 3, 40, [.nil, .int .i64 0, .int .i64 0], .none⟩
theorem Yn7 : Yqs.ok Try.prog 136 := ⟨⟨_, Try.underlying136, rfl, fun w => by simp [Try.sizeOf22, Try.sizeOf3]⟩, ⟨Try.t136, _, Xfc Try.type136, rfl, rfl, rfl, rfl⟩, rfl, rfl, by decide, trivial⟩
def Yqt : TI := ⟨.slice 31, 1, 24, [.nil], .none⟩
theorem Yn8 : Yqt.ok Try.prog 161 := ⟨Try.underlying161, ⟨Try.t161, _, Xfc Try.type161, rfl, rfl, rfl, rfl⟩, rfl, rfl, by decide, trivial⟩
def Yqu : TI := ⟨.arr 4 3, 4, 32, [.int .i64 0, .int .i64 0, .int .i64 0, .int .i64 0], .none⟩
theorem Yn9 : Yqu.ok Try.prog 163 := ⟨Try.underlying163, ⟨Try.t163, _, Xfc Try.type163, rfl, rfl, rfl, rfl⟩, rfl, rfl, by decide, trivial⟩
def Yqv : TI := ⟨.arr 3 3, 3, 24, [.int .i64 0, .int .i64 0, .int .i64 0], .none⟩
theorem Yoa : Yqv.ok Try.prog 173 := ⟨Try.underlying173, ⟨Try.t173, _, Xfc Try.type173, rfl, rfl, rfl, rfl⟩, rfl, rfl, by decide, trivial⟩
def Yqw : TI := ⟨.arr 6 173, 18, 144, [.int .i64 0, .int .i64 0, .int .i64 0, .int .i64 0, .int .i64 0, .int .i64 0, .int .i64 0, .int .i64 0, .int .i64 0, .int .i64 0, .int .i64 0, .int .i64 0, .int .i64 0, .int .i64 0, .int .i64 0, .int .i64 0, .int .i64 0, .int .i64 0], .none⟩
theorem Yob : Yqw.ok Try.prog 174 := ⟨Try.underlying174, ⟨Try.t174, _, Xfc Try.type174, rfl, rfl, rfl, rfl⟩, rfl, rfl, by decide, trivial⟩
def T : Nat → Option TI := lkT [(3, ti3), (4, ti4), (9, ti9), (5, ti5), (22, Yrq), (25, Yrr), (29, Yrs), (31, Yrt), (35, Yru), (42, Yrv), (47, Yrw), (53, Yrx), (100, Yqq), (128, Yqr), (136, Yqs), (161, Yqt), (163, Yqu), (173, Yqv), (174, Yqw)]
theorem hT : TOk Try.prog T := Ypf (by
 intro p hp
 simp only [List.mem_cons, List.not_mem_nil, or_false] at hp
 rcases hp with rfl | rfl | rfl | rfl | rfl | rfl | rfl | rfl | rfl | rfl | rfl | rfl | rfl | rfl | rfl | rfl | rfl | rfl | rfl
 ·
  exact Yqx
 ·
  exact Yqy
 ·
  exact Yq0
 ·
  exact Yqz
 ·
  exact Ypt
 ·
  exact Ypu
 ·
  exact Ypv
 ·
  exact Ypw
 ·
  exact Ypx
 ·
  exact Ypy
 ·
  exact Ypz
 ·
  exact Yp0
 ·
  exact Yn5
 ·
  exact Yn6
 ·
  exact Yn7
 ·
  exact Yn8
 ·
  exact Yn9
 ·
  exact Yoa
 ·
  exact Yob)
theorem hm : Try.prog.follows .mixedOrders = true := by kernel_rfl
theorem Yri (d : Nat) (w : World) (x0 y0 : Int) (x1 y1 : Int) (x2 y2 : ByteArray) : (Op.equalIn (d + 2) 25 (.agg #[.int .i64 x0, .int .i64 x1, .string x2]) (.agg #[.int .i64 y0, .int .i64 y1, .string y2])).run Try.prog w = .ok ((x0 == y0) && ((x1 == y1) && (x2.toList == y2.toList))) w := by
 refine Yqg Try.underlying25 (by kernel_rfl) ?_
 refine Yix (by rfl) (by go_simp; rfl) (by go_simp; rfl) (by go_simp) ?_
 refine Yix (by rfl) (by go_simp; rfl) (by go_simp; rfl) (by go_simp) ?_
 exact Yna (by rfl) (by go_simp; rfl) (by go_simp; rfl) (by go_simp)
theorem Yon {x0 y0 : Int} {x1 y1 : Int} {x2 y2 : ByteArray} : EqT Try.prog 25 [.int .i64 x0, .int .i64 x1, .str x2] [.int .i64 y0, .int .i64 y1, .str y2] ((x0 == y0) && ((x1 == y1) && (x2.toList == y2.toList))) := ⟨by kernel_rfl, rfl, rfl, fun w => Yri 9998 w _ _ _ _ _ _⟩
end Go.Proofs.Ytlebkepfhdjnmac.A
