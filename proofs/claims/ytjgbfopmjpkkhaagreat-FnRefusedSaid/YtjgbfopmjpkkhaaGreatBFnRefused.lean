/- The types of the program, as the abstract logic reads them. Written by a program of this session. Conditions: none. -/
import Derived.Test.YtjgbfopmjpkkhaaGreatDFnRefused
import Derived.Test.YtjgbfopmjpkkhaaGreatRows
import Derived.KernelRfl
namespace Go.Proofs.YtjgbfopmjpkkhaaGreat.A
open Go Go.Proofs Go.Proofs.YtjgbfopmjpkkhaaGreatAL Go.RowKit
set_option linter.unusedVariables false
set_option linter.unusedSimpArgs false
def Xqd (x : ByteArray) : List SV := [.str x]
def Ya6 : List SV → Option ByteArray
 | [x0] => (match gS x0 with | some a0 => some a0 | _ => none)
 | _ => none
abbrev Xcw : Xup := ⟨ByteArray, Xb3, 1, Xqd, Ya6⟩
theorem Yop : Xcw.ok := by
 refine ⟨fun _ => rfl, by decide, fun cs x h => ?_⟩
 change Ya6 cs = some x at h
 unfold Ya6 at h
 split at h
 ·
  split at h
  ·
   cases h
   refine ⟨rfl, fun j y hy => ?_⟩
   change (Xqd _)[j]? = some y at hy
   rcases j with _ | _
   ·
    cases hy; exact ⟨_, rfl, Za7 (by assumption)⟩
   ·
    simp [Xqd] at hy
  ·
   cases h
 ·
  cases h
theorem Yk3 : Xxj [.str ⟨#[]⟩] (Xcw.enc Xcw.d) := by
 intro j y hy
 change (Xqd _)[j]? = some y at hy
 rcases j with _ | _
 ·
  cases hy; exact ⟨_, rfl, fun _ _ _ h => h⟩
 ·
  simp [Xqd] at hy
theorem Xn8 (l : List ByteArray) : (l.filterMap fun y => Xcw.dec (Xcw.enc y)) = l := by
 rw [show (fun y => Xcw.dec (Xcw.enc y)) = some from funext fun y => rfl]; exact List.filterMap_some
def Xxt (x : (List Int)) : List SV := [.ints .i64 x]
def Ypp : List SV → Option (List Int)
 | [x0] => (match gL .i64 x0 with | some a0 => some a0 | _ => none)
 | _ => none
abbrev Xpo : Xup := ⟨(List Int), Xms, 1, Xxt, Ypp⟩
theorem Yta : Xpo.ok := by
 refine ⟨fun _ => rfl, by decide, fun cs x h => ?_⟩
 change Ypp cs = some x at h
 unfold Ypp at h
 split at h
 ·
  split at h
  ·
   cases h
   refine ⟨rfl, fun j y hy => ?_⟩
   change (Xxt _)[j]? = some y at hy
   rcases j with _ | _
   ·
    cases hy; exact ⟨_, rfl, Yul (by assumption)⟩
   ·
    simp [Xxt] at hy
  ·
   cases h
 ·
  cases h
theorem Yq0 : Xxj [.nil] (Xpo.enc Xpo.d) := by
 intro j y hy
 change (Xxt _)[j]? = some y at hy
 rcases j with _ | _
 ·
  cases hy; exact ⟨_, rfl, Yul (k := .i64) rfl⟩
 ·
  simp [Xxt] at hy
theorem Zbn (l : List (List Int)) : (l.filterMap fun y => Xpo.dec (Xpo.enc y)) = l := by
 rw [show (fun y => Xpo.dec (Xpo.enc y)) = some from funext fun y => rfl]; exact List.filterMap_some
def Zc3 (x : Pic) : List SV := [.int .i64 x.Wide, .int .i64 x.High, .str x.Dots]
def Zd8 : List SV → Option Pic
 | [x0, x1, x2] => (match gI .i64 x0, gI .i64 x1, gS x2 with | some a0, some a1, some a2 => some ⟨a0, a1, a2⟩ | _, _, _ => none)
 | _ => none
abbrev Yud : Xup := ⟨Pic, Zer, 3, Zc3, Zd8⟩
theorem Zbo : Yud.ok := by
 refine ⟨fun _ => rfl, by decide, fun cs x h => ?_⟩
 change Zd8 cs = some x at h
 unfold Zd8 at h
 split at h
 ·
  split at h
  ·
   cases h
   refine ⟨rfl, fun j y hy => ?_⟩
   change (Zc3 _)[j]? = some y at hy
   rcases j with _ | _ | _ | _
   ·
    cases hy; exact ⟨_, rfl, Ynp (by assumption)⟩
   ·
    cases hy; exact ⟨_, rfl, Ynp (by assumption)⟩
   ·
    cases hy; exact ⟨_, rfl, Za7 (by assumption)⟩
   ·
    simp [Zc3] at hy
  ·
   cases h
 ·
  cases h
theorem Yzl : Xxj [.int .i64 0, .int .i64 0, .str ⟨#[]⟩] (Yud.enc Yud.d) := by
 intro j y hy
 change (Zc3 _)[j]? = some y at hy
 rcases j with _ | _ | _ | _
 ·
  cases hy; exact ⟨_, rfl, fun _ _ _ h => h⟩
 ·
  cases hy; exact ⟨_, rfl, fun _ _ _ h => h⟩
 ·
  cases hy; exact ⟨_, rfl, fun _ _ _ h => h⟩
 ·
  simp [Zc3] at hy
theorem Yw6 (l : List Pic) : (l.filterMap fun y => Yud.dec (Yud.enc y)) = l := by
 rw [show (fun y => Yud.dec (Yud.enc y)) = some from funext fun y => rfl]; exact List.filterMap_some
def Ygt (x : Xar) : List SV := [.int .i64 x.Kind, .int .i64 x.Mode, .int .i64 x.Dx, .int .i64 x.Dy, .ints .i64 x.Levels]
def Ytv : List SV → Option Xar
 | [x0, x1, x2, x3, x4] => (match gI .i64 x0, gI .i64 x1, gI .i64 x2, gI .i64 x3, gL .i64 x4 with | some a0, some a1, some a2, some a3, some a4 => some ⟨a0, a1, a2, a3, a4⟩ | _, _, _, _, _ => none)
 | _ => none
abbrev Xc2 : Xup := ⟨Xar, Xbx, 5, Ygt, Ytv⟩
theorem Yvv : Xc2.ok := by
 refine ⟨fun _ => rfl, by decide, fun cs x h => ?_⟩
 change Ytv cs = some x at h
 unfold Ytv at h
 split at h
 ·
  split at h
  ·
   cases h
   refine ⟨rfl, fun j y hy => ?_⟩
   change (Ygt _)[j]? = some y at hy
   rcases j with _ | _ | _ | _ | _ | _
   ·
    cases hy; exact ⟨_, rfl, Ynp (by assumption)⟩
   ·
    cases hy; exact ⟨_, rfl, Ynp (by assumption)⟩
   ·
    cases hy; exact ⟨_, rfl, Ynp (by assumption)⟩
   ·
    cases hy; exact ⟨_, rfl, Ynp (by assumption)⟩
   ·
    cases hy; exact ⟨_, rfl, Yul (by assumption)⟩
   ·
    simp [Ygt] at hy
  ·
   cases h
 ·
  cases h
theorem Ytb : Xxj [.int .i64 0, .int .i64 0, .int .i64 0, .int .i64 0, .nil] (Xc2.enc Xc2.d) := by
 intro j y hy
 change (Ygt _)[j]? = some y at hy
 rcases j with _ | _ | _ | _ | _ | _
 ·
  cases hy; exact ⟨_, rfl, fun _ _ _ h => h⟩
 ·
  cases hy; exact ⟨_, rfl, fun _ _ _ h => h⟩
 ·
  cases hy; exact ⟨_, rfl, fun _ _ _ h => h⟩
 ·
  cases hy; exact ⟨_, rfl, fun _ _ _ h => h⟩
 ·
  cases hy; exact ⟨_, rfl, Yul (k := .i64) rfl⟩
 ·
  simp [Ygt] at hy
theorem Xol (l : List Xar) : (l.filterMap fun y => Xc2.dec (Xc2.enc y)) = l := by
 rw [show (fun y => Xc2.dec (Xc2.enc y)) = some from funext fun y => rfl]; exact List.filterMap_some
def ti3 : TI := ⟨.int .i64, 1, 8, [.int .i64 0], .ints .i64⟩
theorem Zdp : ti3.ok Tryz.prog 3 := ⟨Tryz.underlying3, ⟨Tryz.t3, _, Xd9 Tryz.type3, rfl, rfl, rfl, rfl⟩, rfl, rfl, by decide, ⟨rfl, rfl⟩⟩
def ti4 : TI := ⟨.bool, 1, 1, [.bool false], .none⟩
theorem Zdq : ti4.ok Tryz.prog 4 := ⟨Tryz.underlying4, ⟨Tryz.t4, _, Xd9 Tryz.type4, rfl, rfl, rfl, rfl⟩, rfl, rfl, by decide, trivial⟩
def ti5 : TI := ⟨.int .u8, 1, 1, [.int .u8 0], .ints .u8⟩
theorem Zdr : ti5.ok Tryz.prog 5 := ⟨Tryz.underlying5, ⟨Tryz.t5, _, Xd9 Tryz.type5, rfl, rfl, rfl, rfl⟩, rfl, rfl, by decide, ⟨rfl, rfl⟩⟩
def ti9 : TI := ⟨.str, 1, 16, [.str ⟨#[]⟩], .row Xcw⟩
theorem Zds : ti9.ok Tryz.prog 9 := ⟨Tryz.underlying9, ⟨Tryz.t9, _, Xd9 Tryz.type9, rfl, rfl, rfl, rfl⟩, rfl, rfl, by decide, ⟨Yop, rfl, Yk3⟩⟩
def Zeh : TI := ⟨.slice 3, 1, 24, [.nil], .row Xpo⟩
theorem Zcg : Zeh.ok Tryz.prog 22 := ⟨Tryz.underlying22, ⟨Tryz.t22, _, Xd9 Tryz.type22, rfl, rfl, rfl, rfl⟩, rfl, rfl, by decide, ⟨Yta, rfl, Yq0⟩⟩
def Zei : TI := ⟨.struct [(0, 3, 1), (1, 3, 1), (2, 22, 1), (3, 22, 1)], 4, 64, [.int .i64 0, .int .i64 0, .nil, .nil], .none⟩
theorem Zch : Zei.ok Tryz.prog 32 := ⟨⟨_, Tryz.underlying32, rfl, fun w => by simp [Tryz.sizeOf22, Tryz.sizeOf3]⟩, ⟨Tryz.t32, _, Xd9 Tryz.type32, rfl, rfl, rfl, rfl⟩, rfl, rfl, by decide, trivial⟩
def Zej : TI := ⟨.struct [(0, 3, 1), (1, 4, 1), (2, 4, 1), (3, 4, 1)], 4, 16, [.int .i64 0, .bool false, .bool false, .bool false], .none⟩
theorem Zci : Zej.ok Tryz.prog 33 := ⟨⟨_, Tryz.underlying33, rfl, fun w => by simp [Tryz.sizeOf3, Tryz.sizeOf4]⟩, ⟨Tryz.t33, _, Xd9 Tryz.type33, rfl, rfl, rfl, rfl⟩, rfl, rfl, by decide, trivial⟩
def Zek : TI := ⟨.struct [(0, 3, 1), (1, 3, 1), (2, 9, 1)], 3, 32, [.int .i64 0, .int .i64 0, .str ⟨#[]⟩], .row Yud⟩
theorem Zcj : Zek.ok Tryz.prog 34 := ⟨⟨_, Tryz.underlying34, rfl, fun w => by simp [Tryz.sizeOf3, Tryz.sizeOf9]⟩, ⟨Tryz.t34, _, Xd9 Tryz.type34, rfl, rfl, rfl, rfl⟩, rfl, rfl, by decide, ⟨Zbo, rfl, Yzl⟩⟩
def Zel : TI := ⟨.struct [(0, 4, 1), (1, 4, 1), (2, 4, 1), (3, 32, 4), (7, 33, 4), (11, 3, 1), (12, 3, 1), (13, 34, 3), (16, 34, 3)], 19, 168, [.bool false, .bool false, .bool false, .int .i64 0, .int .i64 0, .nil, .nil, .int .i64 0, .bool false, .bool false, .bool false, .int .i64 0, .int .i64 0, .int .i64 0, .int .i64 0, .str ⟨#[]⟩, .int .i64 0, .int .i64 0, .str ⟨#[]⟩], .none⟩
theorem Zck : Zel.ok Tryz.prog 36 := ⟨⟨_, Tryz.underlying36, rfl, fun w => by simp [Tryz.sizeOf3, Tryz.sizeOf32, Tryz.sizeOf33, Tryz.sizeOf34, Tryz.sizeOf4]⟩, ⟨Tryz.t36, _, Xd9 Tryz.type36, rfl, rfl, rfl, rfl⟩, rfl, rfl, by decide, trivial⟩
def Zem : TI := ⟨.slice 34, 1, 24, [.nil], .none⟩
theorem Zcl : Zem.ok Tryz.prog 44 := ⟨Tryz.underlying44, ⟨Tryz.t44, _, Xd9 Tryz.type44, rfl, rfl, rfl, rfl⟩, rfl, rfl, by decide, trivial⟩
def Zen : TI := ⟨.slice 9, 1, 24, [.nil], .none⟩
theorem Zcm : Zen.ok Tryz.prog 52 := ⟨Tryz.underlying52, ⟨Tryz.t52, _, Xd9 Tryz.type52, rfl, rfl, rfl, rfl⟩, rfl, rfl, by decide, trivial⟩
def Zeo : TI := ⟨.slice 5, 1, 24, [.nil], .none⟩
theorem Zcn : Zeo.ok Tryz.prog 59 := ⟨Tryz.underlying59, ⟨Tryz.t59, _, Xd9 Tryz.type59, rfl, rfl, rfl, rfl⟩, rfl, rfl, by decide, trivial⟩
def Zdc : TI := ⟨.struct [(0, 9, 1), (1, 3, 1), (2, 4, 1)], 3, 32, [.str ⟨#[]⟩, .int .i64 0, .bool false], .none⟩
theorem Zal : Zdc.ok Tryz.prog 107 := ⟨⟨_, Tryz.underlying107, rfl, fun w => by simp [Tryz.sizeOf3, Tryz.sizeOf4, Tryz.sizeOf9]⟩, ⟨Tryz.t107, _, Xd9 Tryz.type107, rfl, rfl, rfl, rfl⟩, rfl, rfl, by decide, trivial⟩
def Zdd : TI := ⟨.struct [(0, 3, 1), (1, 3, 1), (2, 3, 1)], 3, 24, [.int .i64 0, .int .i64 0, .int .i64 0], .none⟩
theorem Zam : Zdd.ok Tryz.prog 109 := ⟨⟨_, Tryz.underlying109, rfl, fun w => by simp [Tryz.sizeOf3]⟩, ⟨Tryz.t109, _, Xd9 Tryz.type109, rfl, rfl, rfl, rfl⟩, rfl, rfl, by decide, trivial⟩
def Zde : TI := ⟨.struct [(0, 4, 1), (1, 3, 1), (2, 4, 1), (3, 4, 1)], 4, 24, [.bool false, .int .i64 0, .bool false, .bool false], .none⟩
theorem Zan : Zde.ok Tryz.prog 113 := ⟨⟨_, Tryz.underlying113, rfl, fun w => by simp [Tryz.sizeOf3, Tryz.sizeOf4]⟩, ⟨Tryz.t113, _, Xd9 Tryz.type113, rfl, rfl, rfl, rfl⟩, rfl, rfl, by decide, trivial⟩
def Zdf : TI := ⟨.slice 141, 1, 24, [.nil], .none⟩
theorem Zao : Zdf.ok Tryz.prog 114 := ⟨Tryz.underlying114, ⟨Tryz.t114, _, Xd9 Tryz.type114, rfl, rfl, rfl, rfl⟩, rfl, rfl, by decide, trivial⟩
def Zdg : TI := ⟨.struct [(0, 3, 1), (1, 3, 1), (2, 3, 1), (3, 3, 1)], 4, 32, [.int .i64 0, .int .i64 0, .int .i64 0, .int .i64 0], .none⟩
theorem Zap : Zdg.ok Tryz.prog 118 := ⟨⟨_, Tryz.underlying118, rfl, fun w => by simp [Tryz.sizeOf3]⟩, ⟨Tryz.t118, _, Xd9 Tryz.type118, rfl, rfl, rfl, rfl⟩, rfl, rfl, by decide, trivial⟩
def Zdh : TI := ⟨.int .u64, 1, 8, [.int .u64 0], .ints .u64⟩
theorem Zaq : Zdh.ok Tryz.prog 130 := ⟨Tryz.underlying130, ⟨Tryz.t130, _, Xd9 Tryz.type130, rfl, rfl, rfl, rfl⟩, rfl, rfl, by decide, ⟨rfl, rfl⟩⟩
def Zdi : TI := ⟨.struct [(0, 59, 1), (1, 3, 1), (2, 3, 1)], 3, 40, [.nil, .int .i64 0, .int .i64 0], .none⟩
theorem Zar : Zdi.ok Tryz.prog 132 := ⟨⟨_, Tryz.underlying132, rfl, fun w => by simp [Tryz.sizeOf3, Tryz.sizeOf59]⟩, ⟨Tryz.t132, _, Xd9 Tryz.type132, rfl, rfl, rfl, rfl⟩, rfl, rfl, by decide, trivial⟩
def Zdj : TI := ⟨.struct [(0, 3, 1), (1, 3, 1), (2, 3, 1), (3, 3, 1), (4, 22, 1)], 5, 56, [.int .i64 0, .int .i64 0, .int .i64 0, .int .i64 0, .nil], .row Xc2⟩
theorem Zas : Zdj.ok Tryz.prog 141 := ⟨⟨_, Tryz.underlying141, rfl, fun w => by simp [Tryz.sizeOf22, Tryz.sizeOf3]⟩, ⟨Tryz.t141, _, Xd9 Tryz.type141, rfl, rfl, rfl, rfl⟩, rfl, rfl, by decide, ⟨Yvv, rfl, Ytb⟩⟩
def Zdk : TI := ⟨.slice 22, 1, 24, [.nil], .none⟩
theorem Zat : Zdk.ok Tryz.prog 156 := ⟨Tryz.underlying156, ⟨Tryz.t156, _, Xd9 Tryz.type156, rfl, rfl, rfl, rfl⟩, rfl, rfl, by decide, trivial⟩
def Zdl : TI := ⟨.struct [(0, 22, 1), (1, 22, 1), (2, 3, 1)], 3, 56, [.nil, .nil, .int .i64 0], .none⟩
theorem Zau : Zdl.ok Tryz.prog 172 := ⟨⟨_, Tryz.underlying172, rfl, fun w => by simp [Tryz.sizeOf22, Tryz.sizeOf3]⟩, ⟨Tryz.t172, _, Xd9 Tryz.type172, rfl, rfl, rfl, rfl⟩, rfl, rfl, by decide, trivial⟩
def Zdm : TI := ⟨.arr 4 3, 4, 32, [.int .i64 0, .int .i64 0, .int .i64 0, .int .i64 0], .none⟩
theorem Zav : Zdm.ok Tryz.prog 198 := ⟨Tryz.underlying198, ⟨Tryz.t198, _, Xd9 Tryz.type198, rfl, rfl, rfl, rfl⟩, rfl, rfl, by decide, trivial⟩
def Zdn : TI := ⟨.arr 3 3, 3, 24, [.int .i64 0, .int .i64 0, .int .i64 0], .none⟩
theorem Zaw : Zdn.ok Tryz.prog 202 := ⟨Tryz.underlying202, ⟨Tryz.t202, _, Xd9 Tryz.type202, rfl, rfl, rfl, rfl⟩, rfl, rfl, by decide, trivial⟩
def Zdo : TI := ⟨.arr 6 202, 18, 144, [.int .i64 0, .int .i64 0, .int .i64 0, .int .i64 0, .int .i64 0, .int .i64 0, .int .i64 0, .int .i64 0, .int .i64 0, .int .i64 0, .int .i64 0, .int .i64 0, .int .i64 0, .int .i64 0, .int .i64 0, .int .i64 0, .int .i64 0, .int .i64 0], .none⟩
theorem Zax : Zdo.ok Tryz.prog 203 := ⟨Tryz.underlying203, ⟨Tryz.t203, _, Xd9 Tryz.type203, rfl, rfl, rfl, rfl⟩, rfl, rfl, by decide, trivial⟩
def T : Nat → Option TI := lkT [(3, ti3), (4, ti4), (9, ti9), (5, ti5), (22, Zeh), (32, Zei), (33, Zej), (34, Zek), (36, Zel), (44, Zem), (52, Zen), (59, Zeo), (107, Zdc), (109, Zdd), (113, Zde), (114, Zdf), (118, Zdg), (130, Zdh), (132, Zdi), (141, Zdj), (156, Zdk), (172, Zdl), (198, Zdm), (202, Zdn), (203, Zdo)]
theorem hT : TOk Tryz.prog T := Zbx (by
 intro p hp
 simp only [List.mem_cons, List.not_mem_nil, or_false] at hp
 rcases hp with rfl | rfl | rfl | rfl | rfl | rfl | rfl | rfl | rfl | rfl | rfl | rfl | rfl | rfl | rfl | rfl | rfl | rfl | rfl | rfl | rfl | rfl | rfl | rfl | rfl
 ·
  exact Zdp
 ·
  exact Zdq
 ·
  exact Zds
 ·
  exact Zdr
 ·
  exact Zcg
 ·
  exact Zch
 ·
  exact Zci
 ·
  exact Zcj
 ·
  exact Zck
 ·
  exact Zcl
 ·
  exact Zcm
 ·
  exact Zcn
 ·
  exact Zal
 ·
  exact Zam
 ·
  exact Zan
 ·
  exact Zao
 ·
  exact Zap
 ·
  exact Zaq
 ·
  exact Zar
 ·
  exact Zas
 ·
  exact Zat
 ·
  exact Zau
 ·
  exact Zav
 ·
  exact Zaw
 ·
  exact Zax)
theorem hm : Tryz.prog.follows .mixedOrders = true := by kernel_rfl
theorem Zd3 (d : Nat) (w : World) (x0 y0 : Int) (x1 y1 : Bool) (x2 y2 : Bool) (x3 y3 : Bool) : (Op.equalIn (d + 2) 33 (.agg #[.int .i64 x0, .bool x1, .bool x2, .bool x3]) (.agg #[.int .i64 y0, .bool y1, .bool y2, .bool y3])).run Tryz.prog w = .ok ((x0 == y0) && ((x1 == y1) && ((x2 == y2) && (x3 == y3)))) w := by
 refine Za6 Tryz.underlying33 (by kernel_rfl) ?_
 refine Xxu (by rfl) (by go_simp; rfl) (by go_simp; rfl) (by go_simp) ?_
 refine Xxu (by rfl) (by go_simp; rfl) (by go_simp; rfl) (by go_simp) ?_
 refine Xxu (by rfl) (by go_simp; rfl) (by go_simp; rfl) (by go_simp) ?_
 exact Yuj (by rfl) (by go_simp; rfl) (by go_simp; rfl) (by go_simp)
theorem Yq7 {x0 y0 : Int} {x1 y1 : Bool} {x2 y2 : Bool} {x3 y3 : Bool} : EqT Tryz.prog 33 [.int .i64 x0, .bool x1, .bool x2, .bool x3] [.int .i64 y0, .bool y1, .bool y2, .bool y3] ((x0 == y0) && ((x1 == y1) && ((x2 == y2) && (x3 == y3)))) := ⟨by kernel_rfl, rfl, rfl, fun w => Zd3 9998 w _ _ _ _ _ _ _ _⟩
theorem Zd4 (d : Nat) (w : World) (x0 y0 : Int) (x1 y1 : Int) (x2 y2 : ByteArray) : (Op.equalIn (d + 2) 34 (.agg #[.int .i64 x0, .int .i64 x1, .string x2]) (.agg #[.int .i64 y0, .int .i64 y1, .string y2])).run Tryz.prog w = .ok ((x0 == y0) && ((x1 == y1) && (x2.toList == y2.toList))) w := by
 refine Za6 Tryz.underlying34 (by kernel_rfl) ?_
 refine Xxu (by rfl) (by go_simp; rfl) (by go_simp; rfl) (by go_simp) ?_
 refine Xxu (by rfl) (by go_simp; rfl) (by go_simp; rfl) (by go_simp) ?_
 exact Yuj (by rfl) (by go_simp; rfl) (by go_simp; rfl) (by go_simp)
theorem Ycm {x0 y0 : Int} {x1 y1 : Int} {x2 y2 : ByteArray} : EqT Tryz.prog 34 [.int .i64 x0, .int .i64 x1, .str x2] [.int .i64 y0, .int .i64 y1, .str y2] ((x0 == y0) && ((x1 == y1) && (x2.toList == y2.toList))) := ⟨by kernel_rfl, rfl, rfl, fun w => Zd4 9998 w _ _ _ _ _ _⟩
end Go.Proofs.YtjgbfopmjpkkhaaGreat.A
