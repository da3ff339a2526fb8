/- The types of the program, as the abstract logic reads them. Written by a program of this session. Conditions: none. -/
import Derived.Test.YtnhflbeahbcklaaGreatDFnSource
import Derived.Test.YtnhflbeahbcklaaGreatRows
import Derived.KernelRfl
namespace Go.Proofs.YtnhflbeahbcklaaGreat.A
open Go Go.Proofs Go.Proofs.YtnhflbeahbcklaaGreatAL Go.RowKit
set_option linter.unusedVariables false
set_option linter.unusedSimpArgs false
def Zcj (x : Bool) : List SV := [.bool x]
def Zg7 : List SV → Option Bool
 | [x0] => (match gB x0 with | some a0 => some a0 | _ => none)
 | _ => none
abbrev Yea : Xvp := ⟨Bool, Zer, 1, Zcj, Zg7⟩
theorem Zeo : Yea.ok := by
 refine ⟨fun _ => rfl, by decide, fun cs x h => ?_⟩
 change Zg7 cs = some x at h
 unfold Zg7 at h
 split at h
 ·
  split at h
  ·
   cases h
   refine ⟨rfl, fun j y hy => ?_⟩
   change (Zcj _)[j]? = some y at hy
   rcases j with _ | _
   ·
    cases hy; exact ⟨_, rfl, Zib (by assumption)⟩
   ·
    simp [Zcj] at hy
  ·
   cases h
 ·
  cases h
theorem Zce : Xyf [.bool false] (Yea.enc Yea.d) := by
 intro j y hy
 change (Zcj _)[j]? = some y at hy
 rcases j with _ | _
 ·
  cases hy; exact ⟨_, rfl, fun _ _ _ h => h⟩
 ·
  simp [Zcj] at hy
theorem Yzb (l : List Bool) : (l.filterMap fun y => Yea.dec (Yea.enc y)) = l := by
 rw [show (fun y => Yea.dec (Yea.enc y)) = some from funext fun y => rfl]; exact List.filterMap_some
def Xsz (x : ByteArray) : List SV := [.str x]
def Yfg : List SV → Option ByteArray
 | [x0] => (match gS x0 with | some a0 => some a0 | _ => none)
 | _ => none
abbrev Xbj : Xvp := ⟨ByteArray, Xns, 1, Xsz, Yfg⟩
theorem Ytd : Xbj.ok := by
 refine ⟨fun _ => rfl, by decide, fun cs x h => ?_⟩
 change Yfg cs = some x at h
 unfold Yfg at h
 split at h
 ·
  split at h
  ·
   cases h
   refine ⟨rfl, fun j y hy => ?_⟩
   change (Xsz _)[j]? = some y at hy
   rcases j with _ | _
   ·
    cases hy; exact ⟨_, rfl, Zgb (by assumption)⟩
   ·
    simp [Xsz] at hy
  ·
   cases h
 ·
  cases h
theorem Ypr : Xyf [.str ⟨#[]⟩] (Xbj.enc Xbj.d) := by
 intro j y hy
 change (Xsz _)[j]? = some y at hy
 rcases j with _ | _
 ·
  cases hy; exact ⟨_, rfl, fun _ _ _ h => h⟩
 ·
  simp [Xsz] at hy
theorem Xpx (l : List ByteArray) : (l.filterMap fun y => Xbj.dec (Xbj.enc y)) = l := by
 rw [show (fun y => Xbj.dec (Xbj.enc y)) = some from funext fun y => rfl]; exact List.filterMap_some
def Ya9 (x : (List Int)) : List SV := [.ints .i64 x]
def Yuk : List SV → Option (List Int)
 | [x0] => (match gL .i64 x0 with | some a0 => some a0 | _ => none)
 | _ => none
abbrev Xrp : Xvp := ⟨(List Int), Xg3, 1, Ya9, Yuk⟩
theorem Yx3 : Xrp.ok := by
 refine ⟨fun _ => rfl, by decide, fun cs x h => ?_⟩
 change Yuk cs = some x at h
 unfold Yuk at h
 split at h
 ·
  split at h
  ·
   cases h
   refine ⟨rfl, fun j y hy => ?_⟩
   change (Ya9 _)[j]? = some y at hy
   rcases j with _ | _
   ·
    cases hy; exact ⟨_, rfl, Yzh (by assumption)⟩
   ·
    simp [Ya9] at hy
  ·
   cases h
 ·
  cases h
theorem Yvw : Xyf [.nil] (Xrp.enc Xrp.d) := by
 intro j y hy
 change (Ya9 _)[j]? = some y at hy
 rcases j with _ | _
 ·
  cases hy; exact ⟨_, rfl, Yzh (k := .i64) rfl⟩
 ·
  simp [Ya9] at hy
theorem Zgs (l : List (List Int)) : (l.filterMap fun y => Xrp.dec (Xrp.enc y)) = l := by
 rw [show (fun y => Xrp.dec (Xrp.enc y)) = some from funext fun y => rfl]; exact List.filterMap_some
def Zh8 (x : Pic) : List SV := [.int .i64 x.Wide, .int .i64 x.High, .str x.Dots]
def Zjq : List SV → Option Pic
 | [x0, x1, x2] => (match gI .i64 x0, gI .i64 x1, gS x2 with | some a0, some a1, some a2 => some ⟨a0, a1, a2⟩ | _, _, _ => none)
 | _ => none
abbrev Za2 : Xvp := ⟨Pic, Zes, 3, Zh8, Zjq⟩
theorem Zgt : Za2.ok := by
 refine ⟨fun _ => rfl, by decide, fun cs x h => ?_⟩
 change Zjq cs = some x at h
 unfold Zjq at h
 split at h
 ·
  split at h
  ·
   cases h
   refine ⟨rfl, fun j y hy => ?_⟩
   change (Zh8 _)[j]? = some y at hy
   rcases j with _ | _ | _ | _
   ·
    cases hy; exact ⟨_, rfl, Ysj (by assumption)⟩
   ·
    cases hy; exact ⟨_, rfl, Ysj (by assumption)⟩
   ·
    cases hy; exact ⟨_, rfl, Zgb (by assumption)⟩
   ·
    simp [Zh8] at hy
  ·
   cases h
 ·
  cases h
theorem Zep : Xyf [.int .i64 0, .int .i64 0, .str ⟨#[]⟩] (Za2.enc Za2.d) := by
 intro j y hy
 change (Zh8 _)[j]? = some y at hy
 rcases j with _ | _ | _ | _
 ·
  cases hy; exact ⟨_, rfl, fun _ _ _ h => h⟩
 ·
  cases hy; exact ⟨_, rfl, fun _ _ _ h => h⟩
 ·
  cases hy; exact ⟨_, rfl, fun _ _ _ h => h⟩
 ·
  simp [Zh8] at hy
theorem Zcf (l : List Pic) : (l.filterMap fun y => Za2.dec (Za2.enc y)) = l := by
 rw [show (fun y => Za2.dec (Za2.enc y)) = some from funext fun y => rfl]; exact List.filterMap_some
def Yle (x : Xau) : List SV := [.int .i64 x.Kind, .int .i64 x.Mode, .int .i64 x.Dx, .int .i64 x.Dy, .ints .i64 x.Levels]
def Yyo : List SV → Option Xau
 | [x0, x1, x2, x3, x4] => (match gI .i64 x0, gI .i64 x1, gI .i64 x2, gI .i64 x3, gL .i64 x4 with | some a0, some a1, some a2, some a3, some a4 => some ⟨a0, a1, a2, a3, a4⟩ | _, _, _, _, _ => none)
 | _ => none
abbrev Xdr : Xvp := ⟨Xau, Xnt, 5, Yle, Yyo⟩
theorem Za3 : Xdr.ok := by
 refine ⟨fun _ => rfl, by decide, fun cs x h => ?_⟩
 change Yyo cs = some x at h
 unfold Yyo at h
 split at h
 ·
  split at h
  ·
   cases h
   refine ⟨rfl, fun j y hy => ?_⟩
   change (Yle _)[j]? = some y at hy
   rcases j with _ | _ | _ | _ | _ | _
   ·
    cases hy; exact ⟨_, rfl, Ysj (by assumption)⟩
   ·
    cases hy; exact ⟨_, rfl, Ysj (by assumption)⟩
   ·
    cases hy; exact ⟨_, rfl, Ysj (by assumption)⟩
   ·
    cases hy; exact ⟨_, rfl, Ysj (by assumption)⟩
   ·
    cases hy; exact ⟨_, rfl, Yzh (by assumption)⟩
   ·
    simp [Yle] at hy
  ·
   cases h
 ·
  cases h
theorem Yx4 : Xyf [.int .i64 0, .int .i64 0, .int .i64 0, .int .i64 0, .nil] (Xdr.enc Xdr.d) := by
 intro j y hy
 change (Yle _)[j]? = some y at hy
 rcases j with _ | _ | _ | _ | _ | _
 ·
  cases hy; exact ⟨_, rfl, fun _ _ _ h => h⟩
 ·
  cases hy; exact ⟨_, rfl, fun _ _ _ h => h⟩
 ·
  cases hy; exact ⟨_, rfl, fun _ _ _ h => h⟩
 ·
  cases hy; exact ⟨_, rfl, fun _ _ _ h => h⟩
 ·
  cases hy; exact ⟨_, rfl, Yzh (k := .i64) rfl⟩
 ·
  simp [Yle] at hy
theorem Xxm (l : List Xau) : (l.filterMap fun y => Xdr.dec (Xdr.enc y)) = l := by
 rw [show (fun y => Xdr.dec (Xdr.enc y)) = some from funext fun y => rfl]; exact List.filterMap_some
def ti3 : TI := ⟨.int .i64, 1, 8, [.int .i64 0], .ints .i64⟩
theorem Ziz : ti3.ok Tryz.prog 3 := ⟨Tryz.underlying3, ⟨Tryz.t3, _, Xdd Tryz.type3, rfl, rfl, rfl, rfl⟩, rfl, rfl, by decide, ⟨rfl, rfl⟩⟩
def ti4 : TI := ⟨.bool, 1, 1, [.bool false], .row Yea⟩
theorem Zi0 : ti4.ok Tryz.prog 4 := ⟨Tryz.underlying4, ⟨Tryz.t4, _, Xdd Tryz.type4, rfl, rfl, rfl, rfl⟩, rfl, rfl, by decide, ⟨Zeo, rfl, Zce⟩⟩
def ti5 : TI := ⟨.int .u8, 1, 1, [.int .u8 0], .ints .u8⟩
theorem Zi1 : ti5.ok Tryz.prog 5 := ⟨Tryz.underlying5, ⟨Tryz.t5, _, Xdd Tryz.type5, rfl, rfl, rfl, rfl⟩, rfl, rfl, by decide, ⟨rfl, rfl⟩⟩
def ti9 : TI := ⟨.str, 1, 16, [.str ⟨#[]⟩], .row Xbj⟩
theorem Zi2 : ti9.ok Tryz.prog 9 := ⟨Tryz.underlying9, ⟨Tryz.t9, _, Xdd Tryz.type9, rfl, rfl, rfl, rfl⟩, rfl, rfl, by decide, ⟨Ytd, rfl, Ypr⟩⟩
def Zjw : TI := ⟨.slice 5, 1, 24, [.nil], .none⟩
theorem Zhk : Zjw.ok Tryz.prog 22 := ⟨Tryz.underlying22, ⟨Tryz.t22, _, Xdd Tryz.type22, rfl, rfl, rfl, rfl⟩, rfl, rfl, by decide, trivial⟩
def Zjx : TI := ⟨.slice 9, 1, 24, [.nil], .none⟩
theorem Zhl : Zjx.ok Tryz.prog 24 := ⟨Tryz.underlying24, ⟨Tryz.t24, _, Xdd Tryz.type24, rfl, rfl, rfl, rfl⟩, rfl, rfl, by decide, trivial⟩
def Zjy : TI := ⟨.slice 3, 1, 24, [.nil], .row Xrp⟩
theorem Zhm : Zjy.ok Tryz.prog 26 := ⟨Tryz.underlying26, ⟨Tryz.t26, _, Xdd Tryz.type26, rfl, rfl, rfl, rfl⟩, rfl, rfl, by decide, ⟨Yx3, rfl, Yvw⟩⟩
def Zjz : TI := ⟨.struct [(0, 3, 1), (1, 3, 1), (2, 26, 1), (3, 26, 1)], 4, 64, [.int .i64 0, .int .i64 0, .nil, .nil], .none⟩
theorem Zhn : Zjz.ok Tryz.prog 29 := ⟨⟨_, Tryz.underlying29, rfl, fun w => by simp [Tryz.sizeOf26, Tryz.sizeOf3]⟩, ⟨Tryz.t29, _, Xdd Tryz.type29, rfl, rfl, rfl, rfl⟩, rfl, rfl, by decide, trivial⟩
def Zj0 : TI := ⟨.struct [(0, 3, 1), (1, 4, 1), (2, 4, 1), (3, 4, 1)], 4, 16, [.int .i64 0, .bool false, .bool false, .bool false], .none⟩
theorem Zho : Zj0.ok Tryz.prog 31 := ⟨⟨_, Tryz.underlying31, rfl, fun w => by simp [Tryz.sizeOf3, Tryz.sizeOf4]⟩, ⟨Tryz.t31, _, Xdd Tryz.type31, rfl, rfl, rfl, rfl⟩, rfl, rfl, by decide, trivial⟩
def Zj1 : TI := ⟨.struct [(0, 3, 1), (1, 3, 1), (2, 9, 1)], 3, 32, [.int .i64 0, .int .i64 0, .str ⟨#[]⟩], .row Za2⟩
theorem Zhp : Zj1.ok Tryz.prog 33 := ⟨⟨_, Tryz.underlying33, rfl, fun w => by simp [Tryz.sizeOf3, Tryz.sizeOf9]⟩, ⟨Tryz.t33, _, Xdd Tryz.type33, rfl, rfl, rfl, rfl⟩, rfl, rfl, by decide, ⟨Zgt, rfl, Zep⟩⟩
def Zj2 : TI := ⟨.slice 33, 1, 24, [.nil], .none⟩
theorem Zhq : Zj2.ok Tryz.prog 36 := ⟨Tryz.underlying36, ⟨Tryz.t36, _, Xdd Tryz.type36, rfl, rfl, rfl, rfl⟩, rfl, rfl, by decide, trivial⟩
def Zj3 : TI := ⟨.struct [(0, 3, 1), (1, 3, 1), (2, 3, 1)], 3, 24, [.int .i64 0, .int .i64 0, .int .i64 0], .none⟩
theorem Zhr : Zj3.ok Tryz.prog 41 := ⟨⟨_, Tryz.underlying41, rfl, fun w => by simp [Tryz.sizeOf3]⟩, ⟨Tryz.t41, _, Xdd Tryz.type41, rfl, rfl, rfl, rfl⟩, rfl, rfl, by decide, trivial⟩
def Zj4 : TI := ⟨.struct [(0, 3, 1), (1, 3, 1), (2, 3, 1)], 3, 24, [.int .i64 0, .int .i64 0, .int .i64 0], .none⟩
theorem Zhs : Zj4.ok Tryz.prog 53 := ⟨⟨_, Tryz.underlying53, rfl, fun w => by simp [Tryz.sizeOf3]⟩, ⟨Tryz.t53, _, Xdd Tryz.type53, rfl, rfl, rfl, rfl⟩, rfl, rfl, by decide, trivial⟩
def Zj5 : TI := ⟨.struct [(0, 29, 4), (4, 31, 4), (8, 53, 3), (11, 3, 1), (12, 3, 1), (13, 3, 1), (14, 3, 1), (15, 4, 1), (16, 33, 3)], 19, 176, [.int .i64 0, .int .i64 0, .nil, .nil, .int .i64 0, .bool false, .bool false, .bool false, .int .i64 0, .int .i64 0, .int .i64 0, .int .i64 0, .int .i64 0, .int .i64 0, .int .i64 0, .bool false, .int .i64 0, .int .i64 0, .str ⟨#[]⟩], .none⟩
theorem Zht : Zj5.ok Tryz.prog 55 := ⟨⟨_, Tryz.underlying55, rfl, fun w => by simp [Tryz.sizeOf29, Tryz.sizeOf3, Tryz.sizeOf31, Tryz.sizeOf33, Tryz.sizeOf4, Tryz.sizeOf53]⟩, ⟨Tryz.t55, _, Xdd Tryz.type55, rfl, rfl, rfl, rfl⟩, rfl, rfl, by decide, trivial⟩
def Zj6 : TI := ⟨.slice 4, 1, 24, [.nil], .none⟩
theorem Zhu : Zj6.ok Tryz.prog 56 := ⟨Tryz.underlying56, ⟨Tryz.t56, _, Xdd Tryz.type56, rfl, rfl, rfl, rfl⟩, rfl, rfl, by decide, trivial⟩
def Zj7 : TI := ⟨.struct [(0, 3, 1), (1, 3, 1), (2, 3, 1), (3, 3, 1)], 4, 32, [.int .i64 0, .int .i64 0, .int .i64 0, .int .i64 0], .none⟩
theorem Zhv : Zj7.ok Tryz.prog 73 := ⟨⟨_, Tryz.underlying73, rfl, fun w => by simp [Tryz.sizeOf3]⟩, ⟨Tryz.t73, _, Xdd Tryz.type73, rfl, rfl, rfl, rfl⟩, rfl, rfl, by decide, trivial⟩
def Zio : TI := ⟨.struct [(0, 4, 1), (1, 3, 1), (2, 4, 1), (3, 4, 1)], 4, 24, [.bool false, .int .i64 0, .bool false, .bool false], .none⟩
theorem Zfp : Zio.ok Tryz.prog 114 := ⟨⟨_, Tryz.underlying114, rfl, fun w => by simp [Tryz.sizeOf3, Tryz.sizeOf4]⟩, ⟨Tryz.t114, _, Xdd Tryz.type114, rfl, rfl, rfl, rfl⟩, rfl, rfl, by decide, trivial⟩
def Zip : TI := ⟨.slice 166, 1, 24, [.nil], .none⟩
theorem Zfq : Zip.ok Tryz.prog 115 := ⟨Tryz.underlying115, ⟨Tryz.t115, _, Xdd Tryz.type115, rfl, rfl, rfl, rfl⟩, rfl, rfl, by decide, trivial⟩
def Ziq : TI := ⟨.int .u64, 1, 8, [.int .u64 0], .ints .u64⟩
theorem Zfr : Ziq.ok Tryz.prog 138 := ⟨Tryz.underlying138, ⟨Tryz.t138, _, Xdd Tryz.type138, rfl, rfl, rfl, rfl⟩, rfl, rfl, by decide, ⟨rfl, rfl⟩⟩
def Zir : TI := ⟨.struct [(0, 9, 1), (1, 3, 1), (2, 4, 1)], 3, 32, [.str ⟨#[]⟩, .int .i64 0, .bool false], .none⟩
theorem Zfs : Zir.ok Tryz.prog 146 := ⟨⟨_, Tryz.underlying146, rfl, fun w => by simp [Tryz.sizeOf3, Tryz.sizeOf4, Tryz.sizeOf9]⟩, ⟨Tryz.t146, _, Xdd Tryz.type146, rfl, rfl, rfl, rfl⟩, rfl, rfl, by decide, trivial⟩
def Zis : TI := ⟨.struct [(0, 22, 1), (1, 3, 1), (2, 3, 1)], 3, 40, [.nil, .int .i64 0, .int .i64 0], .none⟩
theorem Zft : Zis.ok Tryz.prog 150 := ⟨⟨_, Tryz.underlying150, rfl, fun w => by simp [Tryz.sizeOf22, Tryz.sizeOf3]⟩, ⟨Tryz.t150, _, Xdd Tryz.type150, rfl, rfl, rfl, rfl⟩, rfl, rfl, by decide, trivial⟩
def Zit : TI := ⟨.struct [(0, 3, 1), (1, 3, 1), (2, 3, 1), (3, 3, 1), (4, 26, 1)], 5, 56, [.int .i64 0, .int .i64 0, .int .i64 0, .int .i64 0, .nil], .row Xdr⟩
theorem Zfu : Zit.ok Tryz.prog 166 := ⟨⟨_, Tryz.underlying166, rfl, fun w => by simp [Tryz.sizeOf26, Tryz.sizeOf3]⟩, ⟨Tryz.t166, _, Xdd Tryz.type166, rfl, rfl, rfl, rfl⟩, rfl, rfl, by decide, ⟨Za3, rfl, Yx4⟩⟩
def Ziu : TI := ⟨.slice 26, 1, 24, [.nil], .none⟩
theorem Zfv : Ziu.ok Tryz.prog 185 := ⟨Tryz.underlying185, ⟨Tryz.t185, _, Xdd Tryz.type185, rfl, rfl, rfl, rfl⟩, rfl, rfl, by decide, trivial⟩
def Ziv : TI := ⟨.struct [(0, 26, 1), (1, 26, 1), (2, 3, 1)], 3, 56, [.nil, .nil, .int .i64 0], .none⟩
theorem Zfw : Ziv.ok Tryz.prog 193 := ⟨⟨_, Tryz.underlying193, rfl, fun w => by simp [Tryz.sizeOf26, Tryz.sizeOf3]⟩, ⟨Tryz.t193, _, Xdd Tryz.type193, rfl, rfl, rfl, rfl⟩, rfl, rfl, by decide, trivial⟩
def Ziw : TI := ⟨.arr 4 3, 4, 32, [.int .i64 0, .int .i64 0, .int .i64 0, .int .i64 0], .none⟩
theorem Zfx : Ziw.ok Tryz.prog 220 := ⟨Tryz.underlying220, ⟨Tryz.t220, _, Xdd Tryz.type220, rfl, rfl, rfl, rfl⟩, rfl, rfl, by decide, trivial⟩
def Zix : TI := ⟨.arr 3 3, 3, 24, [.int .i64 0, .int .i64 0, .int .i64 0], .none⟩
theorem Zfy : Zix.ok Tryz.prog 225 := ⟨Tryz.underlying225, ⟨Tryz.t225, _, Xdd Tryz.type225, rfl, rfl, rfl, rfl⟩, rfl, rfl, by decide, trivial⟩
def Ziy : TI := ⟨.arr 6 225, 18, 144, [.int .i64 0, .int .i64 0, .int .i64 0, .int .i64 0, .int .i64 0, .int .i64 0, .int .i64 0, .int .i64 0, .int .i64 0, .int .i64 0, .int .i64 0, .int .i64 0, .int .i64 0, .int .i64 0, .int .i64 0, .int .i64 0, .int .i64 0, .int .i64 0], .none⟩
theorem Zfz : Ziy.ok Tryz.prog 226 := ⟨Tryz.underlying226, ⟨Tryz.t226, _, Xdd Tryz.type226, rfl, rfl, rfl, rfl⟩, rfl, rfl, by decide, trivial⟩
def T : Nat → Option TI := lkT [(3, ti3), (4, ti4), (9, ti9), (5, ti5), (22, Zjw), (24, Zjx), (26, Zjy), (29, Zjz), (31, Zj0), (33, Zj1), (36, Zj2), (41, Zj3), (53, Zj4), (55, Zj5), (56, Zj6), (73, Zj7), (114, Zio), (115, Zip), (138, Ziq), (146, Zir), (150, Zis), (166, Zit), (185, Ziu), (193, Ziv), (220, Ziw), (225, Zix), (226, Ziy)]
theorem hT : TOk Tryz.prog T := Zg2 (by
 intro p hp
 simp only [List.mem_cons, List.not_mem_nil, or_false] at hp
 rcases hp with rfl | rfl | rfl | rfl | rfl | rfl | rfl | rfl | rfl | rfl | rfl | rfl | rfl | rfl | rfl | rfl | rfl | rfl | rfl | rfl | rfl | rfl | rfl | rfl | rfl | rfl | rfl
 ·
  exact Ziz
 ·
  exact Zi0
 ·
  exact Zi2
 ·
  exact Zi1
 ·
  exact Zhk
 ·
  exact Zhl
 ·
  exact Zhm
 ·
  exact Zhn
 ·
  exact Zho
 ·
  exact Zhp
 ·
  exact Zhq
 ·
  exact Zhr
 ·
  exact Zhs
 ·
  exact Zht
 ·
  exact Zhu
 ·
  exact Zhv
 ·
  exact Zfp
 ·
  exact Zfq
 ·
  exact Zfr
 ·
  exact Zfs
 ·
  exact Zft
 ·
  exact Zfu
 ·
  exact Zfv
 ·
  exact Zfw
 ·
  exact Zfx
 ·
  exact Zfy
 ·
  exact Zfz)
theorem hm : Tryz.prog.follows .mixedOrders = true := by kernel_rfl
theorem Zjk (d : Nat) (w : World) (x0 y0 : Int) (x1 y1 : Bool) (x2 y2 : Bool) (x3 y3 : Bool) : (Op.equalIn (d + 2) 31 (.agg #[.int .i64 x0, .bool x1, .bool x2, .bool x3]) (.agg #[.int .i64 y0, .bool y1, .bool y2, .bool y3])).run Tryz.prog w = .ok ((x0 == y0) && ((x1 == y1) && ((x2 == y2) && (x3 == y3)))) w := by
 refine Zck Tryz.underlying31 (by kernel_rfl) ?_
 refine Xt6 (by rfl) (by go_simp; rfl) (by go_simp; rfl) (by go_simp) ?_
 refine Xt6 (by rfl) (by go_simp; rfl) (by go_simp; rfl) (by go_simp) ?_
 refine Xt6 (by rfl) (by go_simp; rfl) (by go_simp; rfl) (by go_simp) ?_
 exact Ytg (by rfl) (by go_simp; rfl) (by go_simp; rfl) (by go_simp)
theorem Zf9 {x0 y0 : Int} {x1 y1 : Bool} {x2 y2 : Bool} {x3 y3 : Bool} : EqT Tryz.prog 31 [.int .i64 x0, .bool x1, .bool x2, .bool x3] [.int .i64 y0, .bool y1, .bool y2, .bool y3] ((x0 == y0) && ((x1 == y1) && ((x2 == y2) && (x3 == y3)))) := ⟨by kernel_rfl, rfl, rfl, fun w => Zjk 9998 w _ _ _ _ _ _ _ _⟩
theorem Zjl (d : Nat) (w : World) (x0 y0 : Int) (x1 y1 : Int) (x2 y2 : ByteArray) : (Op.equalIn (d + 2) 33 (.agg #[.int .i64 x0, .int .i64 x1, .string x2]) (.agg #[.int .i64 y0, .int .i64 y1, .string y2])).run Tryz.prog w = .ok ((x0 == y0) && ((x1 == y1) && (x2.toList == y2.toList))) w := by
 refine Zck Tryz.underlying33 (by kernel_rfl) ?_
 refine Xt6 (by rfl) (by go_simp; rfl) (by go_simp; rfl) (by go_simp) ?_
 refine Xt6 (by rfl) (by go_simp; rfl) (by go_simp; rfl) (by go_simp) ?_
 exact Ytg (by rfl) (by go_simp; rfl) (by go_simp; rfl) (by go_simp)
theorem Zga {x0 y0 : Int} {x1 y1 : Int} {x2 y2 : ByteArray} : EqT Tryz.prog 33 [.int .i64 x0, .int .i64 x1, .str x2] [.int .i64 y0, .int .i64 y1, .str y2] ((x0 == y0) && ((x1 == y1) && (x2.toList == y2.toList))) := ⟨by kernel_rfl, rfl, rfl, fun w => Zjl 9998 w _ _ _ _ _ _⟩
theorem Zjm (d : Nat) (w : World) (x0 y0 : Int) (x1 y1 : Int) (x2 y2 : Int) : (Op.equalIn (d + 2) 53 (.agg #[.int .i64 x0, .int .i64 x1, .int .i64 x2]) (.agg #[.int .i64 y0, .int .i64 y1, .int .i64 y2])).run Tryz.prog w = .ok ((x0 == y0) && ((x1 == y1) && (x2 == y2))) w := by
 refine Zck Tryz.underlying53 (by kernel_rfl) ?_
 refine Xt6 (by rfl) (by go_simp; rfl) (by go_simp; rfl) (by go_simp) ?_
 refine Xt6 (by rfl) (by go_simp; rfl) (by go_simp; rfl) (by go_simp) ?_
 exact Ytg (by rfl) (by go_simp; rfl) (by go_simp; rfl) (by go_simp)
theorem Zh9 {x0 y0 : Int} {x1 y1 : Int} {x2 y2 : Int} : EqT Tryz.prog 53 [.int .i64 x0, .int .i64 x1, .int .i64 x2] [.int .i64 y0, .int .i64 y1, .int .i64 y2] ((x0 == y0) && ((x1 == y1) && (x2 == y2))) := ⟨by kernel_rfl, rfl, rfl, fun w => Zjm 9998 w _ _ _ _ _ _⟩
end Go.Proofs.YtnhflbeahbcklaaGreat.A
