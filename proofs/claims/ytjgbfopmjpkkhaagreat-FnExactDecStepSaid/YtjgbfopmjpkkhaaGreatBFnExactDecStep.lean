/- The types of the program, as the abstract logic reads them. Written by a program of this session. Conditions: none. -/
import Derived.Test.YtjgbfopmjpkkhaaGreatDFnExactDecStep
import Derived.Test.YtjgbfopmjpkkhaaGreatRows
import Derived.KernelRfl
namespace Go.Proofs.YtjgbfopmjpkkhaaGreat.A
open Go Go.Proofs Go.Proofs.YtjgbfopmjpkkhaaGreatAL Go.RowKit
set_option linter.unusedVariables false
set_option linter.unusedSimpArgs false
def Xt9 (x : (List Int)) : List SV := [.ints .i64 x]
def Ykc : List SV → Option (List Int)
 | [x0] => (match gL .i64 x0 with | some a0 => some a0 | _ => none)
 | _ => none
abbrev Xm4 : Xt2 := ⟨(List Int), Xko, 1, Xt9, Ykc⟩
theorem Ynl : Xm4.ok := by
 refine ⟨fun _ => rfl, by decide, fun cs x h => ?_⟩
 change Ykc cs = some x at h
 unfold Ykc at h
 split at h
 ·
  split at h
  ·
   cases h
   refine ⟨rfl, fun j y hy => ?_⟩
   change (Xt9 _)[j]? = some y at hy
   rcases j with _ | _
   ·
    cases hy; exact ⟨_, rfl, Yoq (by assumption)⟩
   ·
    simp [Xt9] at hy
  ·
   cases h
 ·
  cases h
theorem Ylj : Ybb [.nil] (Xm4.enc Xm4.d) := by
 intro j y hy
 change (Xt9 _)[j]? = some y at hy
 rcases j with _ | _
 ·
  cases hy; exact ⟨_, rfl, Yoq (k := .i64) rfl⟩
 ·
  simp [Xt9] at hy
theorem Yuy (l : List (List Int)) : (l.filterMap fun y => Xm4.dec (Xm4.enc y)) = l := by
 rw [show (fun y => Xm4.dec (Xm4.enc y)) = some from funext fun y => rfl]; exact List.filterMap_some
def Ybo (x : Xay) : List SV := [.int .i64 x.Kind, .int .i64 x.Mode, .int .i64 x.Dx, .int .i64 x.Dy, .ints .i64 x.Levels]
def Yn0 : List SV → Option Xay
 | [x0, x1, x2, x3, x4] => (match gI .i64 x0, gI .i64 x1, gI .i64 x2, gI .i64 x3, gL .i64 x4 with | some a0, some a1, some a2, some a3, some a4 => some ⟨a0, a1, a2, a3, a4⟩ | _, _, _, _, _ => none)
 | _ => none
abbrev Xdc : Xt2 := ⟨Xay, Xbq, 5, Ybo, Yn0⟩
theorem Ypx : Xdc.ok := by
 refine ⟨fun _ => rfl, by decide, fun cs x h => ?_⟩
 change Yn0 cs = some x at h
 unfold Yn0 at h
 split at h
 ·
  split at h
  ·
   cases h
   refine ⟨rfl, fun j y hy => ?_⟩
   change (Ybo _)[j]? = some y at hy
   rcases j with _ | _ | _ | _ | _ | _
   ·
    cases hy; exact ⟨_, rfl, Yop (by assumption)⟩
   ·
    cases hy; exact ⟨_, rfl, Yop (by assumption)⟩
   ·
    cases hy; exact ⟨_, rfl, Yop (by assumption)⟩
   ·
    cases hy; exact ⟨_, rfl, Yop (by assumption)⟩
   ·
    cases hy; exact ⟨_, rfl, Yoq (by assumption)⟩
   ·
    simp [Ybo] at hy
  ·
   cases h
 ·
  cases h
theorem Ynm : Ybb [.int .i64 0, .int .i64 0, .int .i64 0, .int .i64 0, .nil] (Xdc.enc Xdc.d) := by
 intro j y hy
 change (Ybo _)[j]? = some y at hy
 rcases j with _ | _ | _ | _ | _ | _
 ·
  cases hy; exact ⟨_, rfl, fun _ _ _ h => h⟩
 ·
  cases hy; exact ⟨_, rfl, fun _ _ _ h => h⟩
 ·
  cases hy; exact ⟨_, rfl, fun _ _ _ h => h⟩
 ·
  cases hy; exact ⟨_, rfl, fun _ _ _ h => h⟩
 ·
  cases hy; exact ⟨_, rfl, Yoq (k := .i64) rfl⟩
 ·
  simp [Ybo] at hy
theorem Xrd (l : List Xay) : (l.filterMap fun y => Xdc.dec (Xdc.enc y)) = l := by
 rw [show (fun y => Xdc.dec (Xdc.enc y)) = some from funext fun y => rfl]; exact List.filterMap_some
def ti3 : TI := ⟨.int .i64, 1, 8, [.int .i64 0], .ints .i64⟩
theorem Ywx : ti3.ok Tryz.prog 3 := ⟨Tryz.underlying3, ⟨Tryz.t3, _, Xc3 Tryz.type3, rfl, rfl, rfl, rfl⟩, rfl, rfl, by decide, ⟨rfl, rfl⟩⟩
def ti4 : TI := ⟨.bool, 1, 1, [.bool false], .none⟩
theorem Ywy : ti4.ok Tryz.prog 4 := ⟨Tryz.underlying4, ⟨Tryz.t4, _, Xc3 Tryz.type4, rfl, rfl, rfl, rfl⟩, rfl, rfl, by decide, trivial⟩
def ti5 : TI := ⟨.int .u8, 1, 1, [.int .u8 0], .ints .u8⟩
theorem Ywz : ti5.ok Tryz.prog 5 := ⟨Tryz.underlying5, ⟨Tryz.t5, _, Xc3 Tryz.type5, rfl, rfl, rfl, rfl⟩, rfl, rfl, by decide, ⟨rfl, rfl⟩⟩
def ti9 : TI := ⟨.str, 1, 16, [.str ⟨#[]⟩], .none⟩
theorem Yw0 : ti9.ok Tryz.prog 9 := ⟨Tryz.underlying9, ⟨Tryz.t9, _, Xc3 Tryz.type9, rfl, rfl, rfl, rfl⟩, rfl, rfl, by decide, trivial⟩
def Yxo : TI := ⟨.slice 3, 1, 24, [.nil], .row Xm4⟩
theorem Yvm : Yxo.ok Tryz.prog 22 := ⟨Tryz.underlying22, ⟨Tryz.t22, _, Xc3 Tryz.type22, rfl, rfl, rfl, rfl⟩, rfl, rfl, by decide, ⟨Ynl, rfl, Ylj⟩⟩
def Yxp : TI := ⟨.struct [(0, 3, 1), (1, 3, 1), (2, 22, 1), (3, 22, 1)], 4, 64, [.int .i64 0, .int .i64 0, .nil, .nil], .none⟩
theorem Yvn : Yxp.ok Tryz.prog 24 := ⟨⟨_, Tryz.underlying24, rfl, fun w => by simp [Tryz.sizeOf22, Tryz.sizeOf3]⟩, ⟨Tryz.t24, _, Xc3 Tryz.type24, rfl, rfl, rfl, rfl⟩, rfl, rfl, by decide, trivial⟩
def Yxq : TI := ⟨.struct [(0, 3, 1), (1, 4, 1), (2, 4, 1), (3, 4, 1)], 4, 16, [.int .i64 0, .bool false, .bool false, .bool false], .none⟩
theorem Yvo : Yxq.ok Tryz.prog 26 := ⟨⟨_, Tryz.underlying26, rfl, fun w => by simp [Tryz.sizeOf3, Tryz.sizeOf4]⟩, ⟨Tryz.t26, _, Xc3 Tryz.type26, rfl, rfl, rfl, rfl⟩, rfl, rfl, by decide, trivial⟩
def Yxr : TI := ⟨.struct [(0, 3, 1), (1, 3, 1), (2, 9, 1)], 3, 32, [.int .i64 0, .int .i64 0, .str ⟨#[]⟩], .none⟩
theorem Yvp : Yxr.ok Tryz.prog 28 := ⟨⟨_, Tryz.underlying28, rfl, fun w => by simp [Tryz.sizeOf3, Tryz.sizeOf9]⟩, ⟨Tryz.t28, _, Xc3 Tryz.type28, rfl, rfl, rfl, rfl⟩, rfl, rfl, by decide, trivial⟩
def Yxs : TI := ⟨.struct [(0, 4, 1), (1, 4, 1), (2, 4, 1), (3, 24, 4), (7, 26, 4), (11, 3, 1), (12, 3, 1), (13, 28, 3), (16, 28, 3)], 19, 168, [.bool false, .bool false, .bool false, .int .i64 0, .int .i64 0, .nil, .nil, .int .i64 0, .bool false, .bool false, .bool false, .int .i64 0, .int .i64 0, .int .i64 0, .int .i64 0, .str ⟨#[]⟩, .int .i64 0, .int .i64 0, .str ⟨#[]⟩], .none⟩
theorem Yvq : Yxs.ok Tryz.prog 30 := ⟨⟨_, Tryz.underlying30, rfl, fun w => by simp [Tryz.sizeOf24, Tryz.sizeOf26, Tryz.sizeOf28, Tryz.sizeOf3, Tryz.sizeOf4]⟩, ⟨Tryz.t30, _, Xc3 Tryz.type30, rfl, rfl, rfl, rfl⟩, rfl, rfl, by decide, trivial⟩
def Yxt : TI := ⟨.struct [(0, 3, 1), (1, 3, 1), (2, 22, 1), (3, 22, 1)], 4, 64, [.int .i64 0, .int .i64 0, .nil, .nil], .none⟩
theorem Yvr : Yxt.ok Tryz.prog 32 := ⟨⟨_, Tryz.underlying32, rfl, fun w => by simp [Tryz.sizeOf22, Tryz.sizeOf3]⟩, ⟨Tryz.t32, _, Xc3 Tryz.type32, rfl, rfl, rfl, rfl⟩, rfl, rfl, by decide, trivial⟩
def Yxu : TI := ⟨.struct [(0, 3, 1), (1, 4, 1), (2, 4, 1), (3, 4, 1)], 4, 16, [.int .i64 0, .bool false, .bool false, .bool false], .none⟩
theorem Yvs : Yxu.ok Tryz.prog 33 := ⟨⟨_, Tryz.underlying33, rfl, fun w => by simp [Tryz.sizeOf3, Tryz.sizeOf4]⟩, ⟨Tryz.t33, _, Xc3 Tryz.type33, rfl, rfl, rfl, rfl⟩, rfl, rfl, by decide, trivial⟩
def Yxv : TI := ⟨.struct [(0, 3, 1), (1, 3, 1), (2, 9, 1)], 3, 32, [.int .i64 0, .int .i64 0, .str ⟨#[]⟩], .none⟩
theorem Yvt : Yxv.ok Tryz.prog 34 := ⟨⟨_, Tryz.underlying34, rfl, fun w => by simp [Tryz.sizeOf3, Tryz.sizeOf9]⟩, ⟨Tryz.t34, _, Xc3 Tryz.type34, rfl, rfl, rfl, rfl⟩, rfl, rfl, by decide, trivial⟩
def Yxw : TI := ⟨.struct [(0, 4, 1), (1, 4, 1), (2, 4, 1), (3, 32, 4), (7, 33, 4), (11, 3, 1), (12, 3, 1), (13, 34, 3), (16, 34, 3)], 19, 168, [.bool false, .bool false, .bool false, .int .i64 0, .int .i64 0, .nil, .nil, .int .i64 0, .bool false, .bool false, .bool false, .int .i64 0, .int .i64 0, .int .i64 0, .int .i64 0, .str ⟨#[]⟩, .int .i64 0, .int .i64 0, .str ⟨#[]⟩], .none⟩
theorem Yvu : Yxw.ok Tryz.prog 36 := ⟨⟨_, Tryz.underlying36, rfl, fun w => by simp [Tryz.sizeOf3, Tryz.sizeOf32, Tryz.sizeOf33, Tryz.sizeOf34, Tryz.sizeOf4]⟩, ⟨Tryz.t36, _, Xc3 Tryz.type36, rfl, rfl, rfl, rfl⟩, rfl, rfl, by decide, trivial⟩
def Yxx : TI := ⟨.slice 5, 1, 24, [.nil], .none⟩
theorem Yvv : Yxx.ok Tryz.prog 59 := ⟨Tryz.underlying59, ⟨Tryz.t59, _, Xc3 Tryz.type59, rfl, rfl, rfl, rfl⟩, rfl, rfl, by decide, trivial⟩
def Ywl : TI := ⟨.struct [(0, 9, 1), (1, 3, 1), (2, 4, 1)], 3, 32, [.str ⟨#[]⟩, .int .i64 0, .bool false], .none⟩
theorem Ytz : Ywl.ok Tryz.prog 107 := ⟨⟨_, Tryz.underlying107, rfl, fun w => by simp [Tryz.sizeOf3, Tryz.sizeOf4, Tryz.sizeOf9]⟩, ⟨Tryz.t107, _, Xc3 Tryz.type107, rfl, rfl, rfl, rfl⟩, rfl, rfl, by decide, trivial⟩
def Ywm : TI := ⟨.struct [(0, 3, 1), (1, 3, 1), (2, 3, 1)], 3, 24, [.int .i64 0, .int .i64 0, .int .i64 0], .none⟩
theorem Yt0 : Ywm.ok Tryz.prog 109 := ⟨⟨_, Tryz.underlying109, rfl, fun w => by simp [Tryz.sizeOf3]⟩, ⟨Tryz.t109, _, Xc3 Tryz.type109, rfl, rfl, rfl, rfl⟩, rfl, rfl, by decide, trivial⟩
def Ywn : TI := ⟨.struct [(0, 4, 1), (1, 3, 1), (2, 4, 1), (3, 4, 1)], 4, 24, [.bool false, .int .i64 0, .bool false, .bool false], .none⟩
theorem Yt1 : Ywn.ok Tryz.prog 113 := ⟨⟨_, Tryz.underlying113, rfl, fun w => by simp [Tryz.sizeOf3, Tryz.sizeOf4]⟩, ⟨Tryz.t113, _, Xc3 Tryz.type113, rfl, rfl, rfl, rfl⟩, rfl, rfl, by decide, trivial⟩
def Ywo : TI := ⟨.slice 141, 1, 24, [.nil], .none⟩
theorem Yt2 : Ywo.ok Tryz.prog 114 := ⟨Tryz.underlying114, ⟨Tryz.t114, _, Xc3 Tryz.type114, rfl, rfl, rfl, rfl⟩, rfl, rfl, by decide, trivial⟩
def Ywp : TI := ⟨.struct [(0, 3, 1), (1, 3, 1), (2, 3, 1), (3, 3, 1)], 4, 32, [.int .i64 0, .int .i64 0, .int .i64 0, .int .i64 0], .none⟩
theorem Yt3 : Ywp.ok Tryz.prog 118 := ⟨⟨_, Tryz.underlying118, rfl, fun w => by simp [Tryz.sizeOf3]⟩, ⟨Tryz.t118, _, Xc3 Tryz.type118, rfl, rfl, rfl, rfl⟩, rfl, rfl, by decide, trivial⟩
def Ywq : TI := ⟨.int .u64, 1, 8, [.int .u64 0], .ints .u64⟩
theorem Yt4 : Ywq.ok Tryz.prog 130 := ⟨Tryz.underlying130, ⟨Tryz.t130, _, Xc3 Tryz.type130, rfl, rfl, rfl, rfl⟩, rfl, rfl, by decide, ⟨rfl, rfl⟩⟩
def Ywr : TI := ⟨.struct [(0, 3, 1), (1, 3, 1), (2, 3, 1), (3, 3, 1), (4, 22, 1)], 5, 56, [.int .i64 0, .int .i64 0, .int .i64 0, .int .i64 0, .nil], .row Xdc⟩
theorem Yt5 : Ywr.ok Tryz.prog 141 := ⟨⟨_, Tryz.underlying141, rfl, fun w => by simp [Tryz.sizeOf22, Tryz.sizeOf3]⟩, ⟨Tryz.t141, _, Xc3 Tryz.type141, rfl, rfl, rfl, rfl⟩, rfl, rfl, by decide, ⟨Ypx, rfl, Ynm⟩⟩
def Yws : TI := ⟨.slice 22, 1, 24, [.nil], .none⟩
theorem Yt6 : Yws.ok Tryz.prog 156 := ⟨Tryz.underlying156, ⟨Tryz.t156, _, Xc3 Tryz.type156, rfl, rfl, rfl, rfl⟩, rfl, rfl, by decide, trivial⟩
def Ywt : TI := ⟨.struct [(0, 22, 1), (1, 22, 1), (2, 3, 1)], 3, 56, [.nil, .nil, .int .i64 0], .none⟩
theorem Yt7 : Ywt.ok Tryz.prog 172 := ⟨⟨_, Tryz.underlying172, rfl, fun w => by simp [Tryz.sizeOf22, Tryz.sizeOf3]⟩, ⟨Tryz.t172, _, Xc3 Tryz.type172, rfl, rfl, rfl, rfl⟩, rfl, rfl, by decide, trivial⟩
def Ywu : TI := ⟨.arr 4 3, 4, 32, [.int .i64 0, .int .i64 0, .int .i64 0, .int .i64 0], .none⟩
theorem Yt8 : Ywu.ok Tryz.prog 198 := ⟨Tryz.underlying198, ⟨Tryz.t198, _, Xc3 Tryz.type198, rfl, rfl, rfl, rfl⟩, rfl, rfl, by decide, trivial⟩
def Ywv : TI := ⟨.arr 3 3, 3, 24, [.int .i64 0, .int .i64 0, .int .i64 0], .none⟩
theorem Yt9 : Ywv.ok Tryz.prog 202 := ⟨Tryz.underlying202, ⟨Tryz.t202, _, Xc3 Tryz.type202, rfl, rfl, rfl, rfl⟩, rfl, rfl, by decide, trivial⟩
def Yww : TI := ⟨.arr 6 202, 18, 144, [.int .i64 0, .int .i64 0, .int .i64 0, .int .i64 0, .int .i64 0, .int .i64 0, .int .i64 0, .int .i64 0, .int .i64 0, .int .i64 0, .int .i64 0, .int .i64 0, .int .i64 0, .int .i64 0, .int .i64 0, .int .i64 0, .int .i64 0, .int .i64 0], .none⟩
theorem Yua : Yww.ok Tryz.prog 203 := ⟨Tryz.underlying203, ⟨Tryz.t203, _, Xc3 Tryz.type203, rfl, rfl, rfl, rfl⟩, rfl, rfl, by decide, trivial⟩
def T : Nat → Option TI := lkT [(3, ti3), (4, ti4), (9, ti9), (5, ti5), (22, Yxo), (24, Yxp), (26, Yxq), (28, Yxr), (30, Yxs), (32, Yxt), (33, Yxu), (34, Yxv), (36, Yxw), (59, Yxx), (107, Ywl), (109, Ywm), (113, Ywn), (114, Ywo), (118, Ywp), (130, Ywq), (141, Ywr), (156, Yws), (172, Ywt), (198, Ywu), (202, Ywv), (203, Yww)]
theorem hT : TOk Tryz.prog T := Yu6 (by
 intro p hp
 simp only [List.mem_cons, List.not_mem_nil, or_false] at hp
 rcases hp with rfl | rfl | rfl | rfl | rfl | rfl | rfl | rfl | rfl | rfl | rfl | rfl | rfl | rfl | rfl | rfl | rfl | rfl | rfl | rfl | rfl | rfl | rfl | rfl | rfl | rfl
 ·
  exact Ywx
 ·
  exact Ywy
 ·
  exact Yw0
 ·
  exact Ywz
 ·
  exact Yvm
 ·
  exact Yvn
 ·
  exact Yvo
 ·
  exact Yvp
 ·
  exact Yvq
 ·
  exact Yvr
 ·
  exact Yvs
 ·
  exact Yvt
 ·
  exact Yvu
 ·
  exact Yvv
 ·
  exact Ytz
 ·
  exact Yt0
 ·
  exact Yt1
 ·
  exact Yt2
 ·
  exact Yt3
 ·
  exact Yt4
 ·
  exact Yt5
 ·
  exact Yt6
 ·
  exact Yt7
 ·
  exact Yt8
 ·
  exact Yt9
 ·
  exact Yua)
theorem hm : Tryz.prog.follows .mixedOrders = true := by kernel_rfl
theorem Yxb (d : Nat) (w : World) (x0 y0 : Int) (x1 y1 : Bool) (x2 y2 : Bool) (x3 y3 : Bool) : (Op.equalIn (d + 2) 33 (.agg #[.int .i64 x0, .bool x1, .bool x2, .bool x3]) (.agg #[.int .i64 y0, .bool y1, .bool y2, .bool y3])).run Tryz.prog w = .ok ((x0 == y0) && ((x1 == y1) && ((x2 == y2) && (x3 == y3)))) w := by
 refine Yuj Tryz.underlying33 (by kernel_rfl) ?_
 refine Xua (by rfl) (by go_simp; rfl) (by go_simp; rfl) (by go_simp) ?_
 refine Xua (by rfl) (by go_simp; rfl) (by go_simp; rfl) (by go_simp) ?_
 refine Xua (by rfl) (by go_simp; rfl) (by go_simp; rfl) (by go_simp) ?_
 exact Yol (by rfl) (by go_simp; rfl) (by go_simp; rfl) (by go_simp)
theorem Yok {x0 y0 : Int} {x1 y1 : Bool} {x2 y2 : Bool} {x3 y3 : Bool} : EqT Tryz.prog 33 [.int .i64 x0, .bool x1, .bool x2, .bool x3] [.int .i64 y0, .bool y1, .bool y2, .bool y3] ((x0 == y0) && ((x1 == y1) && ((x2 == y2) && (x3 == y3)))) := ⟨by kernel_rfl, rfl, rfl, fun w => Yxb 9998 w _ _ _ _ _ _ _ _⟩
theorem Yxc (d : Nat) (w : World) (x0 y0 : Int) (x1 y1 : Int) (x2 y2 : ByteArray) : (Op.equalIn (d + 2) 34 (.agg #[.int .i64 x0, .int .i64 x1, .string x2]) (.agg #[.int .i64 y0, .int .i64 y1, .string y2])).run Tryz.prog w = .ok ((x0 == y0) && ((x1 == y1) && (x2.toList == y2.toList))) w := by
 refine Yuj Tryz.underlying34 (by kernel_rfl) ?_
 refine Xua (by rfl) (by go_simp; rfl) (by go_simp; rfl) (by go_simp) ?_
 refine Xua (by rfl) (by go_simp; rfl) (by go_simp; rfl) (by go_simp) ?_
 exact Yol (by rfl) (by go_simp; rfl) (by go_simp; rfl) (by go_simp)
theorem Ylq {x0 y0 : Int} {x1 y1 : Int} {x2 y2 : ByteArray} : EqT Tryz.prog 34 [.int .i64 x0, .int .i64 x1, .str x2] [.int .i64 y0, .int .i64 y1, .str y2] ((x0 == y0) && ((x1 == y1) && (x2.toList == y2.toList))) := ⟨by kernel_rfl, rfl, rfl, fun w => Yxc 9998 w _ _ _ _ _ _⟩
end Go.Proofs.YtjgbfopmjpkkhaaGreat.A
