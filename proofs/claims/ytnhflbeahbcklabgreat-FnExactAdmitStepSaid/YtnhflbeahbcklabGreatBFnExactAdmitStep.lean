/- The types of the program, as the abstract logic reads them. Written by a program of this session. Conditions: none. -/
import Derived.Test.YtnhflbeahbcklabGreatDFnExactAdmitStep
import Derived.Test.YtnhflbeahbcklabGreatRows
import Derived.KernelRfl
namespace Go.Proofs.YtnhflbeahbcklabGreat.A
open Go Go.Proofs Go.Proofs.YtnhflbeahbcklabGreatAL Go.RowKit
set_option linter.unusedVariables false
set_option linter.unusedSimpArgs false
def Xir (x : ByteArray) : List SV := [.str x]
def Xpg : List SV → Option ByteArray
 | [x0] => (match gS x0 with | some a0 => some a0 | _ => none)
 | _ => none
abbrev Xao : Xmc := ⟨ByteArray, Xai, 1, Xir, Xpg⟩
theorem Xm2 : Xao.ok := by
 refine ⟨fun _ => rfl, by decide, fun cs x h => ?_⟩
 change Xpg cs = some x at h
 unfold Xpg at h
 split at h
 ·
  split at h
  ·
   cases h
   refine ⟨rfl, fun j y hy => ?_⟩
   change (Xir _)[j]? = some y at hy
   rcases j with _ | _
   ·
    cases hy; exact ⟨_, rfl, Yho (by assumption)⟩
   ·
    simp [Xir] at hy
  ·
   cases h
 ·
  cases h
theorem Xu5 : Xp0 [.str ⟨#[]⟩] (Xao.enc Xao.d) := by
 intro j y hy
 change (Xir _)[j]? = some y at hy
 rcases j with _ | _
 ·
  cases hy; exact ⟨_, rfl, fun _ _ _ h => h⟩
 ·
  simp [Xir] at hy
theorem Xhe (l : List ByteArray) : (l.filterMap fun y => Xao.dec (Xao.enc y)) = l := by
 rw [show (fun y => Xao.dec (Xao.enc y)) = some from funext fun y => rfl]; exact List.filterMap_some
def Xm3 (x : (List Int)) : List SV := [.ints .i64 x]
def Xx0 : List SV → Option (List Int)
 | [x0] => (match gL .i64 x0 with | some a0 => some a0 | _ => none)
 | _ => none
abbrev Xh3 : Xmc := ⟨(List Int), Xjm, 1, Xm3, Xx0⟩
theorem Yaa : Xh3.ok := by
 refine ⟨fun _ => rfl, by decide, fun cs x h => ?_⟩
 change Xx0 cs = some x at h
 unfold Xx0 at h
 split at h
 ·
  split at h
  ·
   cases h
   refine ⟨rfl, fun j y hy => ?_⟩
   change (Xm3 _)[j]? = some y at hy
   rcases j with _ | _
   ·
    cases hy; exact ⟨_, rfl, Ybb (by assumption)⟩
   ·
    simp [Xm3] at hy
  ·
   cases h
 ·
  cases h
theorem Xyo : Xp0 [.nil] (Xh3.enc Xh3.d) := by
 intro j y hy
 change (Xm3 _)[j]? = some y at hy
 rcases j with _ | _
 ·
  cases hy; exact ⟨_, rfl, Ybb (k := .i64) rfl⟩
 ·
  simp [Xm3] at hy
theorem Ygh (l : List (List Int)) : (l.filterMap fun y => Xh3.dec (Xh3.enc y)) = l := by
 rw [show (fun y => Xh3.dec (Xh3.enc y)) = some from funext fun y => rfl]; exact List.filterMap_some
def Xsi (x : Xas) : List SV := [.int .i64 x.Kind, .int .i64 x.Mode, .int .i64 x.Dx, .int .i64 x.Dy, .ints .i64 x.Levels]
def Yao : List SV → Option Xas
 | [x0, x1, x2, x3, x4] => (match gI .i64 x0, gI .i64 x1, gI .i64 x2, gI .i64 x3, gL .i64 x4 with | some a0, some a1, some a2, some a3, some a4 => some ⟨a0, a1, a2, a3, a4⟩ | _, _, _, _, _ => none)
 | _ => none
abbrev Xcr : Xmc := ⟨Xas, Ygi, 5, Xsi, Yao⟩
theorem Yca : Xcr.ok := by
 refine ⟨fun _ => rfl, by decide, fun cs x h => ?_⟩
 change Yao cs = some x at h
 unfold Yao at h
 split at h
 ·
  split at h
  ·
   cases h
   refine ⟨rfl, fun j y hy => ?_⟩
   change (Xsi _)[j]? = some y at hy
   rcases j with _ | _ | _ | _ | _ | _
   ·
    cases hy; exact ⟨_, rfl, Yba (by assumption)⟩
   ·
    cases hy; exact ⟨_, rfl, Yba (by assumption)⟩
   ·
    cases hy; exact ⟨_, rfl, Yba (by assumption)⟩
   ·
    cases hy; exact ⟨_, rfl, Yba (by assumption)⟩
   ·
    cases hy; exact ⟨_, rfl, Ybb (by assumption)⟩
   ·
    simp [Xsi] at hy
  ·
   cases h
 ·
  cases h
theorem Yab : Xp0 [.int .i64 0, .int .i64 0, .int .i64 0, .int .i64 0, .nil] (Xcr.enc Xcr.d) := by
 intro j y hy
 change (Xsi _)[j]? = some y at hy
 rcases j with _ | _ | _ | _ | _ | _
 ·
  cases hy; exact ⟨_, rfl, fun _ _ _ h => h⟩
 ·
  cases hy; exact ⟨_, rfl, fun _ _ _ h => h⟩
 ·
  cases hy; exact ⟨_, rfl, fun _ _ _ h => h⟩
 ·
  cases hy; exact ⟨_, rfl, fun _ _ _ h => h⟩
 ·
  cases hy; exact ⟨_, rfl, Ybb (k := .i64) rfl⟩
 ·
  simp [Xsi] at hy
theorem Xk9 (l : List Xas) : (l.filterMap fun y => Xcr.dec (Xcr.enc y)) = l := by
 rw [show (fun y => Xcr.dec (Xcr.enc y)) = some from funext fun y => rfl]; exact List.filterMap_some
def ti3 : TI := ⟨.int .i64, 1, 8, [.int .i64 0], .ints .i64⟩
theorem Yh5 : ti3.ok Tryz.prog 3 := ⟨Tryz.underlying3, ⟨Tryz.t3, _, Xcs Tryz.type3, rfl, rfl, rfl, rfl⟩, rfl, rfl, by decide, ⟨rfl, rfl⟩⟩
def ti4 : TI := ⟨.bool, 1, 1, [.bool false], .none⟩
theorem Yh6 : ti4.ok Tryz.prog 4 := ⟨Tryz.underlying4, ⟨Tryz.t4, _, Xcs Tryz.type4, rfl, rfl, rfl, rfl⟩, rfl, rfl, by decide, trivial⟩
def ti5 : TI := ⟨.int .u8, 1, 1, [.int .u8 0], .ints .u8⟩
theorem Yh7 : ti5.ok Tryz.prog 5 := ⟨Tryz.underlying5, ⟨Tryz.t5, _, Xcs Tryz.type5, rfl, rfl, rfl, rfl⟩, rfl, rfl, by decide, ⟨rfl, rfl⟩⟩
def ti9 : TI := ⟨.str, 1, 16, [.str ⟨#[]⟩], .row Xao⟩
theorem Yh8 : ti9.ok Tryz.prog 9 := ⟨Tryz.underlying9, ⟨Tryz.t9, _, Xcs Tryz.type9, rfl, rfl, rfl, rfl⟩, rfl, rfl, by decide, ⟨Xm2, rfl, Xu5⟩⟩
def Yiu : TI := ⟨.slice 5, 1, 24, [.nil], .none⟩
theorem Yg4 : Yiu.ok Tryz.prog 22 := ⟨Tryz.underlying22, ⟨Tryz.t22, _, Xcs Tryz.type22, rfl, rfl, rfl, rfl⟩, rfl, rfl, by decide, trivial⟩
def Yiv : TI := ⟨.slice 9, 1, 24, [.nil], .none⟩
theorem Yg5 : Yiv.ok Tryz.prog 24 := ⟨Tryz.underlying24, ⟨Tryz.t24, _, Xcs Tryz.type24, rfl, rfl, rfl, rfl⟩, rfl, rfl, by decide, trivial⟩
def Yiw : TI := ⟨.slice 3, 1, 24, [.nil], .row Xh3⟩
theorem Yg6 : Yiw.ok Tryz.prog 29 := ⟨Tryz.underlying29, ⟨Tryz.t29, _, Xcs Tryz.type29, rfl, rfl, rfl, rfl⟩, rfl, rfl, by decide, ⟨Yaa, rfl, Xyo⟩⟩
def Yix : TI := ⟨.struct [(0, 3, 1), (1, 3, 1), (2, 29, 1), (3, 29, 1)], 4, 64, [.int .i64 0, .int .i64 0, .nil, .nil], .none⟩
theorem Yg7 : Yix.ok Tryz.prog 33 := ⟨⟨_, Tryz.underlying33, rfl, fun w => by simp [Tryz.sizeOf29, Tryz.sizeOf3]⟩, ⟨Tryz.t33, _, Xcs Tryz.type33, rfl, rfl, rfl, rfl⟩, rfl, rfl, by decide, trivial⟩
def Yiy : TI := ⟨.struct [(0, 3, 1), (1, 4, 1), (2, 4, 1), (3, 4, 1)], 4, 16, [.int .i64 0, .bool false, .bool false, .bool false], .none⟩
theorem Yg8 : Yiy.ok Tryz.prog 35 := ⟨⟨_, Tryz.underlying35, rfl, fun w => by simp [Tryz.sizeOf3, Tryz.sizeOf4]⟩, ⟨Tryz.t35, _, Xcs Tryz.type35, rfl, rfl, rfl, rfl⟩, rfl, rfl, by decide, trivial⟩
def Yiz : TI := ⟨.struct [(0, 4, 1), (1, 4, 1), (2, 33, 4), (6, 35, 4), (10, 3, 1), (11, 3, 1), (12, 3, 1)], 13, 112, [.bool false, .bool false, .int .i64 0, .int .i64 0, .nil, .nil, .int .i64 0, .bool false, .bool false, .bool false, .int .i64 0, .int .i64 0, .int .i64 0], .none⟩
theorem Yg9 : Yiz.ok Tryz.prog 55 := ⟨⟨_, Tryz.underlying55, rfl, fun w => by simp [Tryz.sizeOf3, Tryz.sizeOf33, Tryz.sizeOf35, Tryz.sizeOf4]⟩, ⟨Tryz.t55, _, Xcs Tryz.type55, rfl, rfl, rfl, rfl⟩, rfl, rfl, by decide, trivial⟩
def Yi0 : TI := ⟨.struct [(0, 4, 1), (1, 3, 1), (2, 9, 1)], 3, 32, [.bool false, .int .i64 0, .str ⟨#[]⟩], .none⟩
theorem Yha : Yi0.ok Tryz.prog 57 := ⟨⟨_, Tryz.underlying57, rfl, fun w => by simp [Tryz.sizeOf3, Tryz.sizeOf4, Tryz.sizeOf9]⟩, ⟨Tryz.t57, _, Xcs Tryz.type57, rfl, rfl, rfl, rfl⟩, rfl, rfl, by decide, trivial⟩
def Yi1 : TI := ⟨.struct [(0, 3, 1), (1, 3, 1), (2, 29, 1), (3, 29, 1)], 4, 64, [.int .i64 0, .int .i64 0, .nil, .nil], .none⟩
theorem Yhb : Yi1.ok Tryz.prog 62 := ⟨⟨_, Tryz.underlying62, rfl, fun w => by simp [Tryz.sizeOf29, Tryz.sizeOf3]⟩, ⟨Tryz.t62, _, Xcs Tryz.type62, rfl, rfl, rfl, rfl⟩, rfl, rfl, by decide, trivial⟩
def Yi2 : TI := ⟨.struct [(0, 3, 1), (1, 4, 1), (2, 4, 1), (3, 4, 1)], 4, 16, [.int .i64 0, .bool false, .bool false, .bool false], .none⟩
theorem Yhc : Yi2.ok Tryz.prog 63 := ⟨⟨_, Tryz.underlying63, rfl, fun w => by simp [Tryz.sizeOf3, Tryz.sizeOf4]⟩, ⟨Tryz.t63, _, Xcs Tryz.type63, rfl, rfl, rfl, rfl⟩, rfl, rfl, by decide, trivial⟩
def Yi3 : TI := ⟨.struct [(0, 4, 1), (1, 4, 1), (2, 62, 4), (6, 63, 4), (10, 3, 1), (11, 3, 1), (12, 3, 1)], 13, 112, [.bool false, .bool false, .int .i64 0, .int .i64 0, .nil, .nil, .int .i64 0, .bool false, .bool false, .bool false, .int .i64 0, .int .i64 0, .int .i64 0], .none⟩
theorem Yhd : Yi3.ok Tryz.prog 78 := ⟨⟨_, Tryz.underlying78, rfl, fun w => by simp [Tryz.sizeOf3, Tryz.sizeOf4, Tryz.sizeOf62, Tryz.sizeOf63]⟩, ⟨Tryz.t78, _, Xcs Tryz.type78, rfl, rfl, rfl, rfl⟩, rfl, rfl, by decide, trivial⟩
def Yhx : TI := ⟨.struct [(0, 4, 1), (1, 3, 1), (2, 4, 1), (3, 4, 1)], 4, 24, [.bool false, .int .i64 0, .bool false, .bool false], .none⟩
theorem Yfl : Yhx.ok Tryz.prog 112 := ⟨⟨_, Tryz.underlying112, rfl, fun w => by simp [Tryz.sizeOf3, Tryz.sizeOf4]⟩, ⟨Tryz.t112, _, Xcs Tryz.type112, rfl, rfl, rfl, rfl⟩, rfl, rfl, by decide, trivial⟩
def Yhy : TI := ⟨.slice 172, 1, 24, [.nil], .none⟩
theorem Yfm : Yhy.ok Tryz.prog 113 := ⟨Tryz.underlying113, ⟨Tryz.t113, _, Xcs Tryz.type113, rfl, rfl, rfl, rfl⟩, rfl, rfl, by decide, trivial⟩
def Yhz : TI := ⟨.struct [(0, 3, 1), (1, 3, 1), (2, 3, 1)], 3, 24, [.int .i64 0, .int .i64 0, .int .i64 0], .none⟩
theorem Yfn : Yhz.ok Tryz.prog 118 := ⟨⟨_, Tryz.underlying118, rfl, fun w => by simp [Tryz.sizeOf3]⟩, ⟨Tryz.t118, _, Xcs Tryz.type118, rfl, rfl, rfl, rfl⟩, rfl, rfl, by decide, trivial⟩
def Yh0 : TI := ⟨.int .u64, 1, 8, [.int .u64 0], .ints .u64⟩
theorem Yfo : Yh0.ok Tryz.prog 132 := ⟨Tryz.underlying132, ⟨Tryz.t132, _, Xcs Tryz.type132, rfl, rfl, rfl, rfl⟩, rfl, rfl, by decide, ⟨rfl, rfl⟩⟩
def Yh1 : TI := ⟨.struct [(0, 3, 1), (1, 3, 1), (2, 3, 1), (3, 3, 1), (4, 29, 1)], 5, 56, [.int .i64 0, .int .i64 0, .int .i64 0, .int .i64 0, .nil], .row Xcr⟩
theorem Yfp : Yh1.ok Tryz.prog 172 := ⟨⟨_, Tryz.underlying172, rfl, fun w => by simp [Tryz.sizeOf29, Tryz.sizeOf3]⟩, ⟨Tryz.t172, _, Xcs Tryz.type172, rfl, rfl, rfl, rfl⟩, rfl, rfl, by decide, ⟨Yca, rfl, Yab⟩⟩
def Yh2 : TI := ⟨.struct [(0, 3, 1), (1, 3, 1), (2, 3, 1), (3, 3, 1)], 4, 32, [.int .i64 0, .int .i64 0, .int .i64 0, .int .i64 0], .none⟩
theorem Yfq : Yh2.ok Tryz.prog 199 := ⟨⟨_, Tryz.underlying199, rfl, fun w => by simp [Tryz.sizeOf3]⟩, ⟨Tryz.t199, _, Xcs Tryz.type199, rfl, rfl, rfl, rfl⟩, rfl, rfl, by decide, trivial⟩
def Yh3 : TI := ⟨.struct [(0, 9, 1), (1, 3, 1), (2, 4, 1)], 3, 32, [.str ⟨#[]⟩, .int .i64 0, .bool false], .none⟩
theorem Yfr : Yh3.ok Tryz.prog 210 := ⟨⟨_, Tryz.underlying210, rfl, fun w => by simp [Tryz.sizeOf3, Tryz.sizeOf4, Tryz.sizeOf9]⟩, ⟨Tryz.t210, _, Xcs Tryz.type210, rfl, rfl, rfl, rfl⟩, rfl, rfl, by decide, trivial⟩
def Yh4 : TI := ⟨.slice 29, 1, 24, [.nil], .none⟩
theorem Yfs : Yh4.ok Tryz.prog 233 := ⟨Tryz.underlying233, ⟨Tryz.t233, _, Xcs Tryz.type233, rfl, rfl, rfl, rfl⟩, rfl, rfl, by decide, trivial⟩
def T : Nat → Option TI := lkT [(3, ti3), (4, ti4), (9, ti9), (5, ti5), (22, Yiu), (24, Yiv), (29, Yiw), (33, Yix), (35, Yiy), (55, Yiz), (57, Yi0), (62, Yi1), (63, Yi2), (78, Yi3), (112, Yhx), (113, Yhy), (118, Yhz), (132, Yh0), (172, Yh1), (199, Yh2), (210, Yh3), (233, Yh4)]
theorem hT : TOk Tryz.prog T := Ygm (by
 intro p hp
 simp only [List.mem_cons, List.not_mem_nil, or_false] at hp
 rcases hp with rfl | rfl | rfl | rfl | rfl | rfl | rfl | rfl | rfl | rfl | rfl | rfl | rfl | rfl | rfl | rfl | rfl | rfl | rfl | rfl | rfl | rfl
 ·
  exact Yh5
 ·
  exact Yh6
 ·
  exact Yh8
 ·
  exact Yh7
 ·
  exact Yg4
 ·
  exact Yg5
 ·
  exact Yg6
 ·
  exact Yg7
 ·
  exact Yg8
 ·
  exact Yg9
 ·
  exact Yha
 ·
  exact Yhb
 ·
  exact Yhc
 ·
  exact Yhd
 ·
  exact Yfl
 ·
  exact Yfm
 ·
  exact Yfn
 ·
  exact Yfo
 ·
  exact Yfp
 ·
  exact Yfq
 ·
  exact Yfr
 ·
  exact Yfs)
theorem hm : Tryz.prog.follows .mixedOrders = true := by kernel_rfl
theorem Yil (d : Nat) (w : World) (x0 y0 : Int) (x1 y1 : Bool) (x2 y2 : Bool) (x3 y3 : Bool) : (Op.equalIn (d + 2) 35 (.agg #[.int .i64 x0, .bool x1, .bool x2, .bool x3]) (.agg #[.int .i64 y0, .bool y1, .bool y2, .bool y3])).run Tryz.prog w = .ok ((x0 == y0) && ((x1 == y1) && ((x2 == y2) && (x3 == y3)))) w := by
 refine Yhm Tryz.underlying35 (by kernel_rfl) ?_
 refine Xxd (by rfl) (by go_simp; rfl) (by go_simp; rfl) (by go_simp) ?_
 refine Xxd (by rfl) (by go_simp; rfl) (by go_simp; rfl) (by go_simp) ?_
 refine Xxd (by rfl) (by go_simp; rfl) (by go_simp; rfl) (by go_simp) ?_
 exact Ye1 (by rfl) (by go_simp; rfl) (by go_simp; rfl) (by go_simp)
theorem Yf1 {x0 y0 : Int} {x1 y1 : Bool} {x2 y2 : Bool} {x3 y3 : Bool} : EqT Tryz.prog 35 [.int .i64 x0, .bool x1, .bool x2, .bool x3] [.int .i64 y0, .bool y1, .bool y2, .bool y3] ((x0 == y0) && ((x1 == y1) && ((x2 == y2) && (x3 == y3)))) := ⟨by kernel_rfl, rfl, rfl, fun w => Yil 9998 w _ _ _ _ _ _ _ _⟩
end Go.Proofs.YtnhflbeahbcklabGreat.A
