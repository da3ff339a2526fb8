/- The types of the program, as the abstract logic reads them. Written by a program of this session. Conditions: none. -/
import Derived.Test.YtjgbfopmjpkkhaaGreatDFnExactDecStream
import Derived.Test.YtjgbfopmjpkkhaaGreatRows
import Derived.KernelRfl
namespace Go.Proofs.YtjgbfopmjpkkhaaGreat.A
open Go Go.Proofs Go.Proofs.YtjgbfopmjpkkhaaGreatAL Go.RowKit
set_option linter.unusedVariables false
set_option linter.unusedSimpArgs false
def Xoi (x : ByteArray) : List SV := [.str x]
def Xya : List SV → Option ByteArray
 | [x0] => (match gS x0 with | some a0 => some a0 | _ => none)
 | _ => none
abbrev Xbm : Xsf := ⟨ByteArray, Xkc, 1, Xoi, Xya⟩
theorem Yku : Xbm.ok := by
 refine ⟨fun _ => rfl, by decide, fun cs x h => ?_⟩
 change Xya cs = some x at h
 unfold Xya at h
 split at h
 ·
  split at h
  ·
   cases h
   refine ⟨rfl, fun j y hy => ?_⟩
   change (Xoi _)[j]? = some y at hy
   rcases j with _ | _
   ·
    cases hy; exact ⟨_, rfl, Ywu (by assumption)⟩
   ·
    simp [Xoi] at hy
  ·
   cases h
 ·
  cases h
theorem Yhl : Xuo [.str ⟨#[]⟩] (Xbm.enc Xbm.d) := by
 intro j y hy
 change (Xoi _)[j]? = some y at hy
 rcases j with _ | _
 ·
  cases hy; exact ⟨_, rfl, fun _ _ _ h => h⟩
 ·
  simp [Xoi] at hy
theorem Xmh (l : List ByteArray) : (l.filterMap fun y => Xbm.dec (Xbm.enc y)) = l := by
 rw [show (fun y => Xbm.dec (Xbm.enc y)) = some from funext fun y => rfl]; exact List.filterMap_some
def Xux (x : (List Int)) : List SV := [.ints .i64 x]
def Ylv : List SV → Option (List Int)
 | [x0] => (match gL .i64 x0 with | some a0 => some a0 | _ => none)
 | _ => none
abbrev Xno : Xsf := ⟨(List Int), Xk4, 1, Xux, Ylv⟩
theorem Ypb : Xno.ok := by
 refine ⟨fun _ => rfl, by decide, fun cs x h => ?_⟩
 change Ylv cs = some x at h
 unfold Ylv at h
 split at h
 ·
  split at h
  ·
   cases h
   refine ⟨rfl, fun j y hy => ?_⟩
   change (Xux _)[j]? = some y at hy
   rcases j with _ | _
   ·
    cases hy; exact ⟨_, rfl, Yqg (by assumption)⟩
   ·
    simp [Xux] at hy
  ·
   cases h
 ·
  cases h
theorem Ym5 : Xuo [.nil] (Xno.enc Xno.d) := by
 intro j y hy
 change (Xux _)[j]? = some y at hy
 rcases j with _ | _
 ·
  cases hy; exact ⟨_, rfl, Yqg (k := .i64) rfl⟩
 ·
  simp [Xux] at hy
theorem Yxc (l : List (List Int)) : (l.filterMap fun y => Xno.dec (Xno.enc y)) = l := by
 rw [show (fun y => Xno.dec (Xno.enc y)) = some from funext fun y => rfl]; exact List.filterMap_some
def Yym (x : Pic) : List SV := [.int .i64 x.Wide, .int .i64 x.High, .str x.Dots]
def Yzw : List SV → Option Pic
 | [x0, x1, x2] => (match gI .i64 x0, gI .i64 x1, gS x2 with | some a0, some a1, some a2 => some ⟨a0, a1, a2⟩ | _, _, _ => none)
 | _ => none
abbrev Xtp : Xsf := ⟨Pic, Yoz, 3, Yym, Yzw⟩
theorem Yxd : Xtp.ok := by
 refine ⟨fun _ => rfl, by decide, fun cs x h => ?_⟩
 change Yzw cs = some x at h
 unfold Yzw at h
 split at h
 ·
  split at h
  ·
   cases h
   refine ⟨rfl, fun j y hy => ?_⟩
   change (Yym _)[j]? = some y at hy
   rcases j with _ | _ | _ | _
   ·
    cases hy; exact ⟨_, rfl, Yj0 (by assumption)⟩
   ·
    cases hy; exact ⟨_, rfl, Yj0 (by assumption)⟩
   ·
    cases hy; exact ⟨_, rfl, Ywu (by assumption)⟩
   ·
    simp [Yym] at hy
  ·
   cases h
 ·
  cases h
theorem Yu6 : Xuo [.int .i64 0, .int .i64 0, .str ⟨#[]⟩] (Xtp.enc Xtp.d) := by
 intro j y hy
 change (Yym _)[j]? = some y at hy
 rcases j with _ | _ | _ | _
 ·
  cases hy; exact ⟨_, rfl, fun _ _ _ h => h⟩
 ·
  cases hy; exact ⟨_, rfl, fun _ _ _ h => h⟩
 ·
  cases hy; exact ⟨_, rfl, fun _ _ _ h => h⟩
 ·
  simp [Yym] at hy
theorem Ykv (l : List Pic) : (l.filterMap fun y => Xtp.dec (Xtp.enc y)) = l := by
 rw [show (fun y => Xtp.dec (Xtp.enc y)) = some from funext fun y => rfl]; exact List.filterMap_some
def Ydd (x : Xa1) : List SV := [.int .i64 x.Kind, .int .i64 x.Mode, .int .i64 x.Dx, .int .i64 x.Dy, .ints .i64 x.Levels]
def Ypr : List SV → Option Xa1
 | [x0, x1, x2, x3, x4] => (match gI .i64 x0, gI .i64 x1, gI .i64 x2, gI .i64 x3, gL .i64 x4 with | some a0, some a1, some a2, some a3, some a4 => some ⟨a0, a1, a2, a3, a4⟩ | _, _, _, _, _ => none)
 | _ => none
abbrev Xdj : Xsf := ⟨Xa1, Xbv, 5, Ydd, Ypr⟩
theorem Yrp : Xdj.ok := by
 refine ⟨fun _ => rfl, by decide, fun cs x h => ?_⟩
 change Ypr cs = some x at h
 unfold Ypr at h
 split at h
 ·
  split at h
  ·
   cases h
   refine ⟨rfl, fun j y hy => ?_⟩
   change (Ydd _)[j]? = some y at hy
   rcases j with _ | _ | _ | _ | _ | _
   ·
    cases hy; exact ⟨_, rfl, Yj0 (by assumption)⟩
   ·
    cases hy; exact ⟨_, rfl, Yj0 (by assumption)⟩
   ·
    cases hy; exact ⟨_, rfl, Yj0 (by assumption)⟩
   ·
    cases hy; exact ⟨_, rfl, Yj0 (by assumption)⟩
   ·
    cases hy; exact ⟨_, rfl, Yqg (by assumption)⟩
   ·
    simp [Ydd] at hy
  ·
   cases h
 ·
  cases h
theorem Ypc : Xuo [.int .i64 0, .int .i64 0, .int .i64 0, .int .i64 0, .nil] (Xdj.enc Xdj.d) := by
 intro j y hy
 change (Ydd _)[j]? = some y at hy
 rcases j with _ | _ | _ | _ | _ | _
 ·
  cases hy; exact ⟨_, rfl, fun _ _ _ h => h⟩
 ·
  cases hy; exact ⟨_, rfl, fun _ _ _ h => h⟩
 ·
  cases hy; exact ⟨_, rfl, fun _ _ _ h => h⟩
 ·
  cases hy; exact ⟨_, rfl, fun _ _ _ h => h⟩
 ·
  cases hy; exact ⟨_, rfl, Yqg (k := .i64) rfl⟩
 ·
  simp [Ydd] at hy
theorem Xr0 (l : List Xa1) : (l.filterMap fun y => Xdj.dec (Xdj.enc y)) = l := by
 rw [show (fun y => Xdj.dec (Xdj.enc y)) = some from funext fun y => rfl]; exact List.filterMap_some
def ti3 : TI := ⟨.int .i64, 1, 8, [.int .i64 0], .ints .i64⟩
theorem Yzc : ti3.ok Tryz.prog 3 := ⟨Tryz.underlying3, ⟨Tryz.t3, _, Xdt Tryz.type3, rfl, rfl, rfl, rfl⟩, rfl, rfl, by decide, ⟨rfl, rfl⟩⟩
def ti4 : TI := ⟨.bool, 1, 1, [.bool false], .none⟩
theorem Yzd : ti4.ok Tryz.prog 4 := ⟨Tryz.underlying4, ⟨Tryz.t4, _, Xdt Tryz.type4, rfl, rfl, rfl, rfl⟩, rfl, rfl, by decide, trivial⟩
def ti5 : TI := ⟨.int .u8, 1, 1, [.int .u8 0], .ints .u8⟩
theorem Yze : ti5.ok Tryz.prog 5 := ⟨Tryz.underlying5, ⟨Tryz.t5, _, Xdt Tryz.type5, rfl, rfl, rfl, rfl⟩, rfl, rfl, by decide, ⟨rfl, rfl⟩⟩
def ti9 : TI := ⟨.str, 1, 16, [.str ⟨#[]⟩], .row Xbm⟩
theorem Yzf : ti9.ok Tryz.prog 9 := ⟨Tryz.underlying9, ⟨Tryz.t9, _, Xdt Tryz.type9, rfl, rfl, rfl, rfl⟩, rfl, rfl, by decide, ⟨Yku, rfl, Yhl⟩⟩
def Yz4 : TI := ⟨.slice 3, 1, 24, [.nil], .row Xno⟩
theorem Yx0 : Yz4.ok Tryz.prog 22 := ⟨Tryz.underlying22, ⟨Tryz.t22, _, Xdt Tryz.type22, rfl, rfl, rfl, rfl⟩, rfl, rfl, by decide, ⟨Ypb, rfl, Ym5⟩⟩
def Yz5 : TI := ⟨.struct [(0, 3, 1), (1, 3, 1), (2, 22, 1), (3, 22, 1)], 4, 64, [.int .i64 0, .int .i64 0, .nil, .nil], .none⟩
theorem Yx1 : Yz5.ok Tryz.prog 32 := ⟨⟨_, Tryz.underlying32, rfl, fun w => by simp [Tryz.sizeOf22, Tryz.sizeOf3]⟩, ⟨Tryz.t32, _, Xdt Tryz.type32, rfl, rfl, rfl, rfl⟩, rfl, rfl, by decide, trivial⟩
def Yz6 : TI := ⟨.struct [(0, 3, 1), (1, 4, 1), (2, 4, 1), (3, 4, 1)], 4, 16, [.int .i64 0, .bool false, .bool false, .bool false], .none⟩
theorem Yx2 : Yz6.ok Tryz.prog 33 := ⟨⟨_, Tryz.underlying33, rfl, fun w => by simp [Tryz.sizeOf3, Tryz.sizeOf4]⟩, ⟨Tryz.t33, _, Xdt Tryz.type33, rfl, rfl, rfl, rfl⟩, rfl, rfl, by decide, trivial⟩
def Yz7 : TI := ⟨.struct [(0, 3, 1), (1, 3, 1), (2, 9, 1)], 3, 32, [.int .i64 0, .int .i64 0, .str ⟨#[]⟩], .row Xtp⟩
theorem Yx3 : Yz7.ok Tryz.prog 34 := ⟨⟨_, Tryz.underlying34, rfl, fun w => by simp [Tryz.sizeOf3, Tryz.sizeOf9]⟩, ⟨Tryz.t34, _, Xdt Tryz.type34, rfl, rfl, rfl, rfl⟩, rfl, rfl, by decide, ⟨Yxd, rfl, Yu6⟩⟩
def Yz8 : TI := ⟨.struct [(0, 4, 1), (1, 4, 1), (2, 4, 1), (3, 32, 4), (7, 33, 4), (11, 3, 1), (12, 3, 1), (13, 34, 3), (16, 34, 3)], 19, 168, [.bool false, .bool false, .bool false, .int .i64 0, .int .i64 0, .nil, .nil, .int .i64 0, .bool false, .bool false, .bool false, .int .i64 0, .int .i64 0, .int .i64 0, .int .i64 0, .str ⟨#[]⟩, .int .i64 0, .int .i64 0, .str ⟨#[]⟩], .none⟩
theorem Yx4 : Yz8.ok Tryz.prog 36 := ⟨⟨_, Tryz.underlying36, rfl, fun w => by simp [Tryz.sizeOf3, Tryz.sizeOf32, Tryz.sizeOf33, Tryz.sizeOf34, Tryz.sizeOf4]⟩, ⟨Tryz.t36, _, Xdt Tryz.type36, rfl, rfl, rfl, rfl⟩, rfl, rfl, by decide, trivial⟩
def Yz9 : TI := ⟨.slice 34, 1, 24, [.nil], .none⟩
theorem Yx5 : Yz9.ok Tryz.prog 44 := ⟨Tryz.underlying44, ⟨Tryz.t44, _, Xdt Tryz.type44, rfl, rfl, rfl, rfl⟩, rfl, rfl, by decide, trivial⟩
def Zaa : TI := ⟨.slice 9, 1, 24, [.nil], .none⟩
theorem Yx6 : Zaa.ok Tryz.prog 52 := ⟨Tryz.underlying52, ⟨Tryz.t52, _, Xdt Tryz.type52, rfl, rfl, rfl, rfl⟩, rfl, rfl, by decide, trivial⟩
def Zab : TI := ⟨.slice 5, 1, 24, [.nil], .none⟩
theorem Yx7 : Zab.ok Tryz.prog 59 := ⟨Tryz.underlying59, ⟨Tryz.t59, _, Xdt Tryz.type59, rfl, rfl, rfl, rfl⟩, rfl, rfl, by decide, trivial⟩
def Yy0 : TI := ⟨.struct [(0, 9, 1), (1, 3, 1), (2, 4, 1)], 3, 32, [.str ⟨#[]⟩, .int .i64 0, .bool false], .none⟩
theorem Yv8 : Yy0.ok Tryz.prog 107 := ⟨⟨_, Tryz.underlying107, rfl, fun w => by simp [Tryz.sizeOf3, Tryz.sizeOf4, Tryz.sizeOf9]⟩, ⟨Tryz.t107, _, Xdt Tryz.type107, rfl, rfl, rfl, rfl⟩, rfl, rfl, by decide, trivial⟩
def Yy1 : TI := ⟨.struct [(0, 3, 1), (1, 3, 1), (2, 3, 1)], 3, 24, [.int .i64 0, .int .i64 0, .int .i64 0], .none⟩
theorem Yv9 : Yy1.ok Tryz.prog 109 := ⟨⟨_, Tryz.underlying109, rfl, fun w => by simp [Tryz.sizeOf3]⟩, ⟨Tryz.t109, _, Xdt Tryz.type109, rfl, rfl, rfl, rfl⟩, rfl, rfl, by decide, trivial⟩
def Yy2 : TI := ⟨.struct [(0, 4, 1), (1, 3, 1), (2, 4, 1), (3, 4, 1)], 4, 24, [.bool false, .int .i64 0, .bool false, .bool false], .none⟩
theorem Ywa : Yy2.ok Tryz.prog 113 := ⟨⟨_, Tryz.underlying113, rfl, fun w => by simp [Tryz.sizeOf3, Tryz.sizeOf4]⟩, ⟨Tryz.t113, _, Xdt Tryz.type113, rfl, rfl, rfl, rfl⟩, rfl, rfl, by decide, trivial⟩
def Yy3 : TI := ⟨.slice 141, 1, 24, [.nil], .none⟩
theorem Ywb : Yy3.ok Tryz.prog 114 := ⟨Tryz.underlying114, ⟨Tryz.t114, _, Xdt Tryz.type114, rfl, rfl, rfl, rfl⟩, rfl, rfl, by decide, trivial⟩
def Yy4 : TI := ⟨.struct [(0, 3, 1), (1, 3, 1), (2, 3, 1), (3, 3, 1)], 4, 32, [.int .i64 0, .int .i64 0, .int .i64 0, .int .i64 0], .none⟩
theorem Ywc : Yy4.ok Tryz.prog 118 := ⟨⟨_, Tryz.underlying118, rfl, fun w => by simp [Tryz.sizeOf3]⟩, ⟨Tryz.t118, _, Xdt Tryz.type118, rfl, rfl, rfl, rfl⟩, rfl, rfl, by decide, trivial⟩
def Yy5 : TI := ⟨.int .u64, 1, 8, [.int .u64 0], .ints .u64⟩
theorem Ywd : Yy5.ok Tryz.prog 130 := ⟨Tryz.underlying130, ⟨Tryz.t130, _, Xdt Tryz.type130, rfl, rfl, rfl, rfl⟩, rfl, rfl, by decide, ⟨rfl, rfl⟩⟩
def Yy6 : TI := ⟨.struct [(0, 3, 1), (1, 3, 1), (2, 3, 1), (3, 3, 1), (4, 22, 1)], 5, 56, [.int .i64 0, .int .i64 0, .int .i64 0, .int .i64 0, .nil], .row Xdj⟩
theorem Ywe : Yy6.ok Tryz.prog 141 := ⟨⟨_, Tryz.underlying141, rfl, fun w => by simp [Tryz.sizeOf22, Tryz.sizeOf3]⟩, ⟨Tryz.t141, _, Xdt Tryz.type141, rfl, rfl, rfl, rfl⟩, rfl, rfl, by decide, ⟨Yrp, rfl, Ypc⟩⟩
def Yy7 : TI := ⟨.slice 22, 1, 24, [.nil], .none⟩
theorem Ywf : Yy7.ok Tryz.prog 156 := ⟨Tryz.underlying156, ⟨Tryz.t156, _, Xdt Tryz.type156, rfl, rfl, rfl, rfl⟩, rfl, rfl, by decide, trivial⟩
def Yy8 : TI := ⟨.struct [(0, 22, 1), (1, 22, 1), (2, 3, 1)], 3, 56, [.nil, .nil, .int .i64 0], .none⟩
theorem Ywg : Yy8.ok Tryz.prog 172 := ⟨⟨_, Tryz.underlying172, rfl, fun w => by simp [Tryz.sizeOf22, Tryz.sizeOf3]⟩, ⟨Tryz.t172, _, Xdt Tryz.type172, rfl, rfl, rfl, rfl⟩, rfl, rfl, by decide, trivial⟩
def Yy9 : TI := ⟨.arr 4 3, 4, 32, [.int .i64 0, .int .i64 0, .int .i64 0, .int .i64 0], .none⟩
theorem Ywh : Yy9.ok Tryz.prog 198 := ⟨Tryz.underlying198, ⟨Tryz.t198, _, Xdt Tryz.type198, rfl, rfl, rfl, rfl⟩, rfl, rfl, by decide, trivial⟩
def Yza : TI := ⟨.arr 3 3, 3, 24, [.int .i64 0, .int .i64 0, .int .i64 0], .none⟩
theorem Ywi : Yza.ok Tryz.prog 202 := ⟨Tryz.underlying202, ⟨Tryz.t202, _, Xdt Tryz.type202, rfl, rfl, rfl, rfl⟩, rfl, rfl, by decide, trivial⟩
def Yzb : TI := ⟨.arr 6 202, 18, 144, [.int .i64 0, .int .i64 0, .int .i64 0, .int .i64 0, .int .i64 0, .int .i64 0, .int .i64 0, .int .i64 0, .int .i64 0, .int .i64 0, .int .i64 0, .int .i64 0, .int .i64 0, .int .i64 0, .int .i64 0, .int .i64 0, .int .i64 0, .int .i64 0], .none⟩
theorem Ywj : Yzb.ok Tryz.prog 203 := ⟨Tryz.underlying203, ⟨Tryz.t203, _, Xdt Tryz.type203, rfl, rfl, rfl, rfl⟩, rfl, rfl, by decide, trivial⟩
def T : Nat → Option TI := lkT [(3, ti3), (4, ti4), (9, ti9), (5, ti5), (22, Yz4), (32, Yz5), (33, Yz6), (34, Yz7), (36, Yz8), (44, Yz9), (52, Zaa), (59, Zab), (107, Yy0), (109, Yy1), (113, Yy2), (114, Yy3), (118, Yy4), (130, Yy5), (141, Yy6), (156, Yy7), (172, Yy8), (198, Yy9), (202, Yza), (203, Yzb)]
theorem hT : TOk Tryz.prog T := Yxl (by
 intro p hp
 simp only [List.mem_cons, List.not_mem_nil, or_false] at hp
 rcases hp with rfl | rfl | rfl | rfl | rfl | rfl | rfl | rfl | rfl | rfl | rfl | rfl | rfl | rfl | rfl | rfl | rfl | rfl | rfl | rfl | rfl | rfl | rfl | rfl
 ·
  exact Yzc
 ·
  exact Yzd
 ·
  exact Yzf
 ·
  exact Yze
 ·
  exact Yx0
 ·
  exact Yx1
 ·
  exact Yx2
 ·
  exact Yx3
 ·
  exact Yx4
 ·
  exact Yx5
 ·
  exact Yx6
 ·
  exact Yx7
 ·
  exact Yv8
 ·
  exact Yv9
 ·
  exact Ywa
 ·
  exact Ywb
 ·
  exact Ywc
 ·
  exact Ywd
 ·
  exact Ywe
 ·
  exact Ywf
 ·
  exact Ywg
 ·
  exact Ywh
 ·
  exact Ywi
 ·
  exact Ywj)
theorem hm : Tryz.prog.follows .mixedOrders = true := by kernel_rfl
theorem Yzq (d : Nat) (w : World) (x0 y0 : Int) (x1 y1 : Bool) (x2 y2 : Bool) (x3 y3 : Bool) : (Op.equalIn (d + 2) 33 (.agg #[.int .i64 x0, .bool x1, .bool x2, .bool x3]) (.agg #[.int .i64 y0, .bool y1, .bool y2, .bool y3])).run Tryz.prog w = .ok ((x0 == y0) && ((x1 == y1) && ((x2 == y2) && (x3 == y3)))) w := by
 refine Ywt Tryz.underlying33 (by kernel_rfl) ?_
 refine Xuy (by rfl) (by go_simp; rfl) (by go_simp; rfl) (by go_simp) ?_
 refine Xuy (by rfl) (by go_simp; rfl) (by go_simp; rfl) (by go_simp) ?_
 refine Xuy (by rfl) (by go_simp; rfl) (by go_simp; rfl) (by go_simp) ?_
 exact Yqc (by rfl) (by go_simp; rfl) (by go_simp; rfl) (by go_simp)
theorem Yqb {x0 y0 : Int} {x1 y1 : Bool} {x2 y2 : Bool} {x3 y3 : Bool} : EqT Tryz.prog 33 [.int .i64 x0, .bool x1, .bool x2, .bool x3] [.int .i64 y0, .bool y1, .bool y2, .bool y3] ((x0 == y0) && ((x1 == y1) && ((x2 == y2) && (x3 == y3)))) := ⟨by kernel_rfl, rfl, rfl, fun w => Yzq 9998 w _ _ _ _ _ _ _ _⟩
theorem Yzr (d : Nat) (w : World) (x0 y0 : Int) (x1 y1 : Int) (x2 y2 : ByteArray) : (Op.equalIn (d + 2) 34 (.agg #[.int .i64 x0, .int .i64 x1, .string x2]) (.agg #[.int .i64 y0, .int .i64 y1, .string y2])).run Tryz.prog w = .ok ((x0 == y0) && ((x1 == y1) && (x2.toList == y2.toList))) w := by
 refine Ywt Tryz.underlying34 (by kernel_rfl) ?_
 refine Xuy (by rfl) (by go_simp; rfl) (by go_simp; rfl) (by go_simp) ?_
 refine Xuy (by rfl) (by go_simp; rfl) (by go_simp; rfl) (by go_simp) ?_
 exact Yqc (by rfl) (by go_simp; rfl) (by go_simp; rfl) (by go_simp)
theorem Ync {x0 y0 : Int} {x1 y1 : Int} {x2 y2 : ByteArray} : EqT Tryz.prog 34 [.int .i64 x0, .int .i64 x1, .str x2] [.int .i64 y0, .int .i64 y1, .str y2] ((x0 == y0) && ((x1 == y1) && (x2.toList == y2.toList))) := ⟨by kernel_rfl, rfl, rfl, fun w => Yzr 9998 w _ _ _ _ _ _⟩
end Go.Proofs.YtjgbfopmjpkkhaaGreat.A
