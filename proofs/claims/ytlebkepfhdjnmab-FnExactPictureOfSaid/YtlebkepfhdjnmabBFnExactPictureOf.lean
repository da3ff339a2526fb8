/- The types of the program, as the abstract logic reads them. Written by a program of this session. Conditions: none. -/
import Derived.Test.YtlebkepfhdjnmabDFnExactPictureOf
import Derived.Test.YtlebkepfhdjnmabRows
import Derived.KernelRfl
namespace Go.Proofs.Ytlebkepfhdjnmab.A
open Go Go.Proofs Go.Proofs.YtlebkepfhdjnmabAL Go.RowKit
set_option linter.unusedVariables false
set_option linter.unusedSimpArgs false
def Xen (x : ByteArray) : List SV := [.str x]
def Xhz : List SV → Option ByteArray
 | [x0] => (match gS x0 with | some a0 => some a0 | _ => none)
 | _ => none
abbrev Xad : Xge := ⟨ByteArray, Xcw, 1, Xen, Xhz⟩
theorem Xlv : Xad.ok := by
 refine ⟨fun _ => rfl, by decide, fun cs x h => ?_⟩
 change Xhz cs = some x at h
 unfold Xhz at h
 split at h
 ·
  split at h
  ·
   cases h
   refine ⟨rfl, fun j y hy => ?_⟩
   change (Xen _)[j]? = some y at hy
   rcases j with _ | _
   ·
    cases hy; exact ⟨_, rfl, Xs5 (by assumption)⟩
   ·
    simp [Xen] at hy
  ·
   cases h
 ·
  cases h
theorem Xkx : Xje [.str ⟨#[]⟩] (Xad.enc Xad.d) := by
 intro j y hy
 change (Xen _)[j]? = some y at hy
 rcases j with _ | _
 ·
  cases hy; exact ⟨_, rfl, fun _ _ _ h => h⟩
 ·
  simp [Xen] at hy
theorem Xdq (l : List ByteArray) : (l.filterMap fun y => Xad.dec (Xad.enc y)) = l := by
 rw [show (fun y => Xad.dec (Xad.enc y)) = some from funext fun y => rfl]; exact List.filterMap_some
def Xjo (x : Packet) : List SV := [.int .i64 x.Seq, .bool x.First, .bool x.Last, .str x.Bytes]
def Xob : List SV → Option Packet
 | [x0, x1, x2, x3] => (match gI .i64 x0, gB x1, gB x2, gS x3 with | some a0, some a1, some a2, some a3 => some ⟨a0, a1, a2, a3⟩ | _, _, _, _ => none)
 | _ => none
abbrev Xax : Xge := ⟨Packet, Xai, 4, Xjo, Xob⟩
theorem Xg8 : Xax.ok := by
 refine ⟨fun _ => rfl, by decide, fun cs x h => ?_⟩
 change Xob cs = some x at h
 unfold Xob at h
 split at h
 ·
  split at h
  ·
   cases h
   refine ⟨rfl, fun j y hy => ?_⟩
   change (Xjo _)[j]? = some y at hy
   rcases j with _ | _ | _ | _ | _
   ·
    cases hy; exact ⟨_, rfl, Xum (by assumption)⟩
   ·
    cases hy; exact ⟨_, rfl, Xs4 (by assumption)⟩
   ·
    cases hy; exact ⟨_, rfl, Xs4 (by assumption)⟩
   ·
    cases hy; exact ⟨_, rfl, Xs5 (by assumption)⟩
   ·
    simp [Xjo] at hy
  ·
   cases h
 ·
  cases h
theorem Xjl : Xje [.int .i64 0, .bool false, .bool false, .str ⟨#[]⟩] (Xax.enc Xax.d) := by
 intro j y hy
 change (Xjo _)[j]? = some y at hy
 rcases j with _ | _ | _ | _ | _
 ·
  cases hy; exact ⟨_, rfl, fun _ _ _ h => h⟩
 ·
  cases hy; exact ⟨_, rfl, fun _ _ _ h => h⟩
 ·
  cases hy; exact ⟨_, rfl, fun _ _ _ h => h⟩
 ·
  cases hy; exact ⟨_, rfl, fun _ _ _ h => h⟩
 ·
  simp [Xjo] at hy
theorem Xue (l : List Packet) : (l.filterMap fun y => Xax.dec (Xax.enc y)) = l := by
 rw [show (fun y => Xax.dec (Xax.enc y)) = some from funext fun y => rfl]; exact List.filterMap_some
def ti3 : TI := ⟨.int .i64, 1, 8, [.int .i64 0], .ints .i64⟩
theorem Xux : ti3.ok Try.prog 3 := ⟨Try.underlying3, ⟨Try.t3, _, Xdw Try.type3, rfl, rfl, rfl, rfl⟩, rfl, rfl, by decide, ⟨rfl, rfl⟩⟩
def ti4 : TI := ⟨.bool, 1, 1, [.bool false], .none⟩
theorem Xuy : ti4.ok Try.prog 4 := ⟨Try.underlying4, ⟨Try.t4, _, Xdw Try.type4, rfl, rfl, rfl, rfl⟩, rfl, rfl, by decide, trivial⟩
def ti5 : TI := ⟨.int .u8, 1, 1, [.int .u8 0], .ints .u8⟩
theorem Xuz : ti5.ok Try.prog 5 := ⟨Try.underlying5, ⟨Try.t5, _, Xdw Try.type5, rfl, rfl, rfl, rfl⟩, rfl, rfl, by decide, ⟨rfl, rfl⟩⟩
def ti9 : TI := ⟨.str, 1, 16, [.str ⟨#[]⟩], .row Xad⟩
theorem Xu0 : ti9.ok Try.prog 9 := ⟨Try.underlying9, ⟨Try.t9, _, Xdw Try.type9, rfl, rfl, rfl, rfl⟩, rfl, rfl, by decide, ⟨Xlv, rfl, Xkx⟩⟩
def Xvm : TI := ⟨.slice 5, 1, 24, [.nil], .none⟩
theorem Xt4 : Xvm.ok Try.prog 22 := ⟨Try.underlying22, ⟨Try.t22, _, Xdw Try.type22, rfl, rfl, rfl, rfl⟩, rfl, rfl, by decide, trivial⟩
def Xvn : TI := ⟨.slice 3, 1, 24, [.nil], .none⟩
theorem Xt5 : Xvn.ok Try.prog 28 := ⟨Try.underlying28, ⟨Try.t28, _, Xdw Try.type28, rfl, rfl, rfl, rfl⟩, rfl, rfl, by decide, trivial⟩
def Xvo : TI := ⟨.slice 102, 1, 24, [.nil], .none⟩
theorem Xt6 : Xvo.ok Try.prog 35 := ⟨Try.underlying35, ⟨Try.t35, _, Xdw Try.type35, rfl, rfl, rfl, rfl⟩, rfl, rfl, by decide, trivial⟩
def Xvp : TI := ⟨.slice 9, 1, 24, [.nil], .none⟩
theorem Xt7 : Xvp.ok Try.prog 37 := ⟨Try.underlying37, ⟨Try.t37, _, Xdw Try.type37, rfl, rfl, rfl, rfl⟩, rfl, rfl, by decide, trivial⟩
def Xvq : TI := ⟨.slice 104, 1, 24, [.nil], .none⟩
theorem Xt8 : Xvq.ok Try.prog 40 := ⟨Try.underlying40, ⟨Try.t40, _, Xdw Try.type40, rfl, rfl, rfl, rfl⟩, rfl, rfl, by decide, trivial⟩
def Xuv : TI := ⟨.struct [(0, 3, 1), (1, 4, 1), (2, 4, 1), (3, 9, 1)], 4, 32, [.int .i64 0, .bool false, .bool false, .str ⟨#[]⟩], .row Xax⟩
theorem Xsu : Xuv.ok Try.prog 102 := ⟨⟨_, Try.underlying102, rfl, fun w => by simp [Try.sizeOf3, Try.sizeOf4, Try.sizeOf9]⟩, ⟨Try.t102, _, Xdw Try.type102, rfl, rfl, rfl, rfl⟩, rfl, rfl, by decide, ⟨Xg8, rfl, Xjl⟩⟩
def Xuw : TI := ⟨.struct [(0, 3, 1), (1, 4, 1), (2, 4, 1), (3, 9, 1)], 4, 32, [.int .i64 0, .bool false, .bool false, .str ⟨#[]⟩], .row Xax⟩
theorem Xsv : Xuw.ok Try.prog 104 := ⟨⟨_, Try.underlying104, rfl, fun w => by simp [Try.sizeOf3, Try.sizeOf4, Try.sizeOf9]⟩, ⟨Try.t104, _, Xdw Try.type104, rfl, rfl, rfl, rfl⟩, rfl, rfl, by decide, ⟨Xg8, rfl, Xjl⟩⟩
def T : Nat → Option TI := lkT [(3, ti3), (4, ti4), (9, ti9), (5, ti5), (22, Xvm), (28, Xvn), (35, Xvo), (37, Xvp), (40, Xvq), (102, Xuv), (104, Xuw)]
theorem hT : TOk Try.prog T := Xts (by
 intro p hp
 simp only [List.mem_cons, List.not_mem_nil, or_false] at hp
 rcases hp with rfl | rfl | rfl | rfl | rfl | rfl | rfl | rfl | rfl | rfl | rfl
 ·
  exact Xux
 ·
  exact Xuy
 ·
  exact Xu0
 ·
  exact Xuz
 ·
  exact Xt4
 ·
  exact Xt5
 ·
  exact Xt6
 ·
  exact Xt7
 ·
  exact Xt8
 ·
  exact Xsu
 ·
  exact Xsv)
theorem hm : Try.prog.follows .mixedOrders = true := by kernel_rfl
end Go.Proofs.Ytlebkepfhdjnmab.A
