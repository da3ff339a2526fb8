/- The types of the program, as the abstract logic reads them. Written by a program of this session. Conditions: none. -/
import Derived.Test.YtlebkepfhdjnmacDFnExactTileBack
import Derived.Test.YtlebkepfhdjnmacRows
import Derived.KernelRfl
namespace Go.Proofs.Ytlebkepfhdjnmac.A
open Go Go.Proofs Go.Proofs.YtlebkepfhdjnmacAL Go.RowKit
set_option linter.unusedVariables false
set_option linter.unusedSimpArgs false
def Xm2 (x : (List Int)) : List SV := [.ints .i64 x]
def Xxu : List SV → Option (List Int)
 | [x0] => (match gL .i64 x0 with | some a0 => some a0 | _ => none)
 | _ => none
abbrev Xif : Xmx := ⟨(List Int), Xrp, 1, Xm2, Xxu⟩
theorem Yad : Xif.ok := by
 refine ⟨fun _ => rfl, by decide, fun cs x h => ?_⟩
 change Xxu cs = some x at h
 unfold Xxu at h
 split at h
 ·
  split at h
  ·
   cases h
   refine ⟨rfl, fun j y hy => ?_⟩
   change (Xm2 _)[j]? = some y at hy
   rcases j with _ | _
   ·
    cases hy; exact ⟨_, rfl, Yba (by assumption)⟩
   ·
    simp [Xm2] at hy
  ·
   cases h
 ·
  cases h
theorem Xyp : Xrv [.nil] (Xif.enc Xif.d) := by
 intro j y hy
 change (Xm2 _)[j]? = some y at hy
 rcases j with _ | _
 ·
  cases hy; exact ⟨_, rfl, Yba (k := .i64) rfl⟩
 ·
  simp [Xm2] at hy
theorem Ygf (l : List (List Int)) : (l.filterMap fun y => Xif.dec (Xif.enc y)) = l := by
 rw [show (fun y => Xif.dec (Xif.enc y)) = some from funext fun y => rfl]; exact List.filterMap_some
def Xr9 (x : Square) : List SV := [.int .i64 x.Kind, .int .i64 x.Mode, .int .i64 x.Dx, .int .i64 x.Dy, .ints .i64 x.Levels]
def Yar : List SV → Option Square
 | [x0, x1, x2, x3, x4] => (match gI .i64 x0, gI .i64 x1, gI .i64 x2, gI .i64 x3, gL .i64 x4 with | some a0, some a1, some a2, some a3, some a4 => some ⟨a0, a1, a2, a3, a4⟩ | _, _, _, _, _ => none)
 | _ => none
abbrev Xce : Xmx := ⟨Square, Xas, 5, Xr9, Yar⟩
theorem Xon : Xce.ok := by
 refine ⟨fun _ => rfl, by decide, fun cs x h => ?_⟩
 change Yar cs = some x at h
 unfold Yar at h
 split at h
 ·
  split at h
  ·
   cases h
   refine ⟨rfl, fun j y hy => ?_⟩
   change (Xr9 _)[j]? = some y at hy
   rcases j with _ | _ | _ | _ | _ | _
   ·
    cases hy; exact ⟨_, rfl, Ya9 (by assumption)⟩
   ·
    cases hy; exact ⟨_, rfl, Ya9 (by assumption)⟩
   ·
    cases hy; exact ⟨_, rfl, Ya9 (by assumption)⟩
   ·
    cases hy; exact ⟨_, rfl, Ya9 (by assumption)⟩
   ·
    cases hy; exact ⟨_, rfl, Yba (by assumption)⟩
   ·
    simp [Xr9] at hy
  ·
   cases h
 ·
  cases h
theorem Xr6 : Xrv [.int .i64 0, .int .i64 0, .int .i64 0, .int .i64 0, .nil] (Xce.enc Xce.d) := by
 intro j y hy
 change (Xr9 _)[j]? = some y at hy
 rcases j with _ | _ | _ | _ | _ | _
 ·
  cases hy; exact ⟨_, rfl, fun _ _ _ h => h⟩
 ·
  cases hy; exact ⟨_, rfl, fun _ _ _ h => h⟩
 ·
  cases hy; exact ⟨_, rfl, fun _ _ _ h => h⟩
 ·
  cases hy; exact ⟨_, rfl, fun _ _ _ h => h⟩
 ·
  cases hy; exact ⟨_, rfl, Yba (k := .i64) rfl⟩
 ·
  simp [Xr9] at hy
theorem Yhb (l : List Square) : (l.filterMap fun y => Xce.dec (Xce.enc y)) = l := by
 rw [show (fun y => Xce.dec (Xce.enc y)) = some from funext fun y => rfl]; exact List.filterMap_some
def ti3 : TI := ⟨.int .i64, 1, 8, [.int .i64 0], .ints .i64⟩
theorem Yh0 : ti3.ok Try.prog 3 := ⟨Try.underlying3, ⟨Try.t3, _, Xcp Try.type3, rfl, rfl, rfl, rfl⟩, rfl, rfl, by decide, ⟨rfl, rfl⟩⟩
def ti4 : TI := ⟨.bool, 1, 1, [.bool false], .none⟩
theorem Yh1 : ti4.ok Try.prog 4 := ⟨Try.underlying4, ⟨Try.t4, _, Xcp Try.type4, rfl, rfl, rfl, rfl⟩, rfl, rfl, by decide, trivial⟩
def ti5 : TI := ⟨.int .u8, 1, 1, [.int .u8 0], .ints .u8⟩
theorem Yh2 : ti5.ok Try.prog 5 := ⟨Try.underlying5, ⟨Try.t5, _, Xcp Try.type5, rfl, rfl, rfl, rfl⟩, rfl, rfl, by decide, ⟨rfl, rfl⟩⟩
def ti9 : TI := ⟨.str, 1, 16, [.str ⟨#[]⟩], .none⟩
theorem Yh3 : ti9.ok Try.prog 9 := ⟨Try.underlying9, ⟨Try.t9, _, Xcp Try.type9, rfl, rfl, rfl, rfl⟩, rfl, rfl, by decide, trivial⟩
def Yip : TI := ⟨.slice 5, 1, 24, [.nil], .none⟩
theorem Ygz : Yip.ok Try.prog 22 := ⟨Try.underlying22, ⟨Try.t22, _, Xcp Try.type22, rfl, rfl, rfl, rfl⟩, rfl, rfl, by decide, trivial⟩
def Yiq : TI := ⟨.struct [(0, 3, 1), (1, 3, 1), (2, 9, 1)], 3, 32, [.int .i64 0, .int .i64 0, .str ⟨#[]⟩], .none⟩
theorem Yg0 : Yiq.ok Try.prog 25 := ⟨⟨_, Try.underlying25, rfl, fun w => by simp [Try.sizeOf3, Try.sizeOf9]⟩, ⟨Try.t25, _, Xcp Try.type25, rfl, rfl, rfl, rfl⟩, rfl, rfl, by decide, trivial⟩
def Yir : TI := ⟨.struct [(0, 4, 1), (1, 3, 1), (2, 4, 1), (3, 4, 1)], 4, 24, [.bool false, .int .i64 0, .bool false, .bool false], .none⟩
theorem Yg1 : Yir.ok Try.prog 29 := ⟨⟨_, Try.underlying29, rfl, fun w => by simp [Try.sizeOf3, Try.sizeOf4]⟩, ⟨Try.t29, _, Xcp Try.type29, rfl, rfl, rfl, rfl⟩, rfl, rfl, by decide, trivial⟩
def Yis : TI := ⟨.slice 3, 1, 24, [.nil], .row Xif⟩
theorem Yg2 : Yis.ok Try.prog 31 := ⟨Try.underlying31, ⟨Try.t31, _, Xcp Try.type31, rfl, rfl, rfl, rfl⟩, rfl, rfl, by decide, ⟨Yad, rfl, Xyp⟩⟩
def Yit : TI := ⟨.struct [(0, 3, 1), (1, 3, 1), (2, 3, 1), (3, 3, 1), (4, 31, 1)], 5, 56, [.int .i64 0, .int .i64 0, .int .i64 0, .int .i64 0, .nil], .row Xce⟩
theorem Yg3 : Yit.ok Try.prog 35 := ⟨⟨_, Try.underlying35, rfl, fun w => by simp [Try.sizeOf3, Try.sizeOf31]⟩, ⟨Try.t35, _, Xcp Try.type35, rfl, rfl, rfl, rfl⟩, rfl, rfl, by decide, ⟨Xon, rfl, Xr6⟩⟩
def Yiu : TI := ⟨.slice 35, 1, 24, [.nil], .none⟩
theorem Yg4 : Yiu.ok Try.prog 42 := ⟨Try.underlying42, ⟨Try.t42, _, Xcp Try.type42, rfl, rfl, rfl, rfl⟩, rfl, rfl, by decide, trivial⟩
def Yiv : TI := ⟨.struct [(0, 3, 1), (1, 3, 1), (2, 3, 1), (3, 3, 1)], 4, 32, [.int .i64 0, .int .i64 0, .int .i64 0, .int .i64 0], .none⟩
theorem Yg5 : Yiv.ok Try.prog 47 := ⟨⟨_, Try.underlying47, rfl, fun w => by simp [Try.sizeOf3]⟩, ⟨Try.t47, _, Xcp Try.type47, rfl, rfl, rfl, rfl⟩, rfl, rfl, by decide, trivial⟩
def Yiw : TI := ⟨.struct [(0, 3, 1), (1, 3, 1), (2, 9, 1)], 3, 32, [.int .i64 0, .int .i64 0, .str ⟨#[]⟩], .none⟩
theorem Yg6 : Yiw.ok Try.prog 74 := ⟨⟨_, Try.underlying74, rfl, fun w => by simp [Try.sizeOf3, Try.sizeOf9]⟩, ⟨Try.t74, _, Xcp Try.type74, rfl, rfl, rfl, rfl⟩, rfl, rfl, by decide, trivial⟩
def Yix : TI := ⟨.struct [(0, 3, 1), (1, 3, 1), (2, 3, 1), (3, 3, 1)], 4, 32, [.int .i64 0, .int .i64 0, .int .i64 0, .int .i64 0], .none⟩
theorem Yg7 : Yix.ok Try.prog 75 := ⟨⟨_, Try.underlying75, rfl, fun w => by simp [Try.sizeOf3]⟩, ⟨Try.t75, _, Xcp Try.type75, rfl, rfl, rfl, rfl⟩, rfl, rfl, by decide, trivial⟩
def Yiy : TI := ⟨.struct [(0, 4, 1), (1, 3, 1), (2, 4, 1), (3, 4, 1)], 4, 24, [.bool false, .int .i64 0, .bool false, .bool false], .none⟩
theorem Yg8 : Yiy.ok Try.prog 76 := ⟨⟨_, Try.underlying76, rfl, fun w => by simp [Try.sizeOf3, Try.sizeOf4]⟩, ⟨Try.t76, _, Xcp Try.type76, rfl, rfl, rfl, rfl⟩, rfl, rfl, by decide, trivial⟩
def Yiz : TI := ⟨.slice 130, 1, 24, [.nil], .none⟩
theorem Yg9 : Yiz.ok Try.prog 77 := ⟨Try.underlying77, ⟨Try.t77, _, Xcp Try.type77, rfl, rfl, rfl, rfl⟩, rfl, rfl, by decide, trivial⟩
def Yhu : TI := ⟨.struct [(0, 31, 1), (1, 31, 1), (2, 3, 1)], 3, 56, [.nil, .nil, .int .i64 0], .none⟩
theorem Yfm : Yhu.ok Try.prog 100 := ⟨⟨_, Try.underlying100, rfl, fun w => by simp [Try.sizeOf3, Try.sizeOf31]⟩, ⟨Try.t100, _, Xcp Try.type100, rfl, rfl, rfl, rfl⟩, rfl, rfl, by decide, trivial⟩
def Yhv : TI := ⟨.struct [(0, 3, 1), (1, 3, 1), (2, 3, 1), (3, 3, 1), (4, 31, 1)], 5, 56, [.int .i64 0, .int .i64 0, .int .i64 0, .int .i64 0, .nil], .row Xce⟩
theorem Yfn : Yhv.ok Try.prog 130 := ⟨⟨_, Try.underlying130, rfl, fun w => by simp [Try.sizeOf3, Try.sizeOf31]⟩, ⟨Try.t130, _, Xcp Try.type130, rfl, rfl, rfl, rfl⟩, rfl, rfl, by decide, ⟨Xon, rfl, Xr6⟩⟩
def Yhw : TI := ⟨.slice 31, 1, 24, [.nil], .none⟩
theorem Yfo : Yhw.ok Try.prog 161 := ⟨Try.underlying161, ⟨Try.t161, _, Xcp Try.type161, rfl, rfl, rfl, rfl⟩, rfl, rfl, by decide, trivial⟩
def Yhx : TI := ⟨.arr 4 3, 4, 32, [.int .i64 0, .int .i64 0, .int .i64 0, .int .i64 0], .none⟩
theorem Yfp : Yhx.ok Try.prog 163 := ⟨Try.underlying163, ⟨Try.t163, _, Xcp Try.type163, rfl, rfl, rfl, rfl⟩, rfl, rfl, by decide, trivial⟩
def Yhy : TI := ⟨.arr 3 3, 3, 24, [.int .i64 0, .int .i64 0, .int .i64 0], .none⟩
theorem Yfq : Yhy.ok Try.prog 173 := ⟨Try.underlying173, ⟨Try.t173, _, Xcp Try.type173, rfl, rfl, rfl, rfl⟩, rfl, rfl, by decide, trivial⟩
def Yhz : TI := ⟨.arr 6 173, 18, 144, [.int .i64 0, .int .i64 0, .int .i64 0, .int .i64 0, .int .i64 0, .int .i64 0, .int .i64 0, .int .i64 0, .int .i64 0, .int .i64 0, .int .i64 0, .int .i64 0, .int .i64 0, .int .i64 0, .int .i64 0, .int .i64 0, .int .i64 0, .int .i64 0], .none⟩
theorem Yfr : Yhz.ok Try.prog 174 := ⟨Try.underlying174, ⟨Try.t174, _, Xcp Try.type174, rfl, rfl, rfl, rfl⟩, rfl, rfl, by decide, trivial⟩
def T : Nat → Option TI := lkT [(3, ti3), (4, ti4), (9, ti9), (5, ti5), (22, Yip), (25, Yiq), (29, Yir), (31, Yis), (35, Yit), (42, Yiu), (47, Yiv), (74, Yiw), (75, Yix), (76, Yiy), (77, Yiz), (100, Yhu), (130, Yhv), (161, Yhw), (163, Yhx), (173, Yhy), (174, Yhz)]
theorem hT : TOk Try.prog T := Ygm (by
 intro p hp
 simp only [List.mem_cons, List.not_mem_nil, or_false] at hp
 rcases hp with rfl | rfl | rfl | rfl | rfl | rfl | rfl | rfl | rfl | rfl | rfl | rfl | rfl | rfl | rfl | rfl | rfl | rfl | rfl | rfl | rfl
 ·
  exact Yh0
 ·
  exact Yh1
 ·
  exact Yh3
 ·
  exact Yh2
 ·
  exact Ygz
 ·
  exact Yg0
 ·
  exact Yg1
 ·
  exact Yg2
 ·
  exact Yg3
 ·
  exact Yg4
 ·
  exact Yg5
 ·
  exact Yg6
 ·
  exact Yg7
 ·
  exact Yg8
 ·
  exact Yg9
 ·
  exact Yfm
 ·
  exact Yfn
 ·
  exact Yfo
 ·
  exact Yfp
 ·
  exact Yfq
 ·
  exact Yfr)
theorem hm : Try.prog.follows .mixedOrders = true := by kernel_rfl
end Go.Proofs.Ytlebkepfhdjnmac.A
