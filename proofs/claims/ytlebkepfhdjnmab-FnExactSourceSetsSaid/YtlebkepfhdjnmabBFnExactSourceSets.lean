/- The types of the program, as the abstract logic reads them. Written by a program of this session. Conditions: none. -/
import Derived.Test.YtlebkepfhdjnmabDFnExactSourceSets
import Derived.Test.YtlebkepfhdjnmabRows
import Derived.KernelRfl
namespace Go.Proofs.Ytlebkepfhdjnmab.A
open Go Go.Proofs Go.Proofs.YtlebkepfhdjnmabAL Go.RowKit
set_option linter.unusedVariables false
set_option linter.unusedSimpArgs false
def Xfi (x : ByteArray) : List SV := [.str x]
def Xkb : List SV → Option ByteArray
 | [x0] => (match gS x0 with | some a0 => some a0 | _ => none)
 | _ => none
abbrev Xam : Xin := ⟨ByteArray, Xg2, 1, Xfi, Xkb⟩
theorem Xqu : Xam.ok := by
 refine ⟨fun _ => rfl, by decide, fun cs x h => ?_⟩
 change Xkb cs = some x at h
 unfold Xkb at h
 split at h
 ·
  split at h
  ·
   cases h
   refine ⟨rfl, fun j y hy => ?_⟩
   change (Xfi _)[j]? = some y at hy
   rcases j with _ | _
   ·
    cases hy; exact ⟨_, rfl, Xz3 (by assumption)⟩
   ·
    simp [Xfi] at hy
  ·
   cases h
 ·
  cases h
theorem Xog : Xl1 [.str ⟨#[]⟩] (Xam.enc Xam.d) := by
 intro j y hy
 change (Xfi _)[j]? = some y at hy
 rcases j with _ | _
 ·
  cases hy; exact ⟨_, rfl, fun _ _ _ h => h⟩
 ·
  simp [Xfi] at hy
theorem Xxm (l : List ByteArray) : (l.filterMap fun y => Xam.dec (Xam.enc y)) = l := by
 rw [show (fun y => Xam.dec (Xam.enc y)) = some from funext fun y => rfl]; exact List.filterMap_some
def Xis (x : (List Int)) : List SV := [.ints .i64 x]
def Xrw : List SV → Option (List Int)
 | [x0] => (match gL .i64 x0 with | some a0 => some a0 | _ => none)
 | _ => none
abbrev Xe6 : Xin := ⟨(List Int), Xcm, 1, Xis, Xrw⟩
theorem Xto : Xe6.ok := by
 refine ⟨fun _ => rfl, by decide, fun cs x h => ?_⟩
 change Xrw cs = some x at h
 unfold Xrw at h
 split at h
 ·
  split at h
  ·
   cases h
   refine ⟨rfl, fun j y hy => ?_⟩
   change (Xis _)[j]? = some y at hy
   rcases j with _ | _
   ·
    cases hy; exact ⟨_, rfl, Xyj (by assumption)⟩
   ·
    simp [Xis] at hy
  ·
   cases h
 ·
  cases h
theorem Xsj : Xl1 [.nil] (Xe6.enc Xe6.d) := by
 intro j y hy
 change (Xis _)[j]? = some y at hy
 rcases j with _ | _
 ·
  cases hy; exact ⟨_, rfl, Xyj (k := .i64) rfl⟩
 ·
  simp [Xis] at hy
theorem Xyx (l : List (List Int)) : (l.filterMap fun y => Xe6.dec (Xe6.enc y)) = l := by
 rw [show (fun y => Xe6.dec (Xe6.enc y)) = some from funext fun y => rfl]; exact List.filterMap_some
def ti3 : TI := ⟨.int .i64, 1, 8, [.int .i64 0], .ints .i64⟩
theorem Yag : ti3.ok Try.prog 3 := ⟨Try.underlying3, ⟨Try.t3, _, Xbp Try.type3, rfl, rfl, rfl, rfl⟩, rfl, rfl, by decide, ⟨rfl, rfl⟩⟩
def ti4 : TI := ⟨.bool, 1, 1, [.bool false], .none⟩
theorem Yah : ti4.ok Try.prog 4 := ⟨Try.underlying4, ⟨Try.t4, _, Xbp Try.type4, rfl, rfl, rfl, rfl⟩, rfl, rfl, by decide, trivial⟩
def ti5 : TI := ⟨.int .u8, 1, 1, [.int .u8 0], .ints .u8⟩
theorem Yai : ti5.ok Try.prog 5 := ⟨Try.underlying5, ⟨Try.t5, _, Xbp Try.type5, rfl, rfl, rfl, rfl⟩, rfl, rfl, by decide, ⟨rfl, rfl⟩⟩
def ti9 : TI := ⟨.str, 1, 16, [.str ⟨#[]⟩], .row Xam⟩
theorem Yaj : ti9.ok Try.prog 9 := ⟨Try.underlying9, ⟨Try.t9, _, Xbp Try.type9, rfl, rfl, rfl, rfl⟩, rfl, rfl, by decide, ⟨Xqu, rfl, Xog⟩⟩
def Ya7 : TI := ⟨.slice 5, 1, 24, [.nil], .none⟩
theorem Xzg : Ya7.ok Try.prog 22 := ⟨Try.underlying22, ⟨Try.t22, _, Xbp Try.type22, rfl, rfl, rfl, rfl⟩, rfl, rfl, by decide, trivial⟩
def Ya8 : TI := ⟨.struct [(0, 3, 1), (1, 3, 1), (2, 9, 1)], 3, 32, [.int .i64 0, .int .i64 0, .str ⟨#[]⟩], .none⟩
theorem Xzh : Ya8.ok Try.prog 25 := ⟨⟨_, Try.underlying25, rfl, fun w => by simp [Try.sizeOf3, Try.sizeOf9]⟩, ⟨Try.t25, _, Xbp Try.type25, rfl, rfl, rfl, rfl⟩, rfl, rfl, by decide, trivial⟩
def Ya9 : TI := ⟨.slice 3, 1, 24, [.nil], .row Xe6⟩
theorem Xzi : Ya9.ok Try.prog 28 := ⟨Try.underlying28, ⟨Try.t28, _, Xbp Try.type28, rfl, rfl, rfl, rfl⟩, rfl, rfl, by decide, ⟨Xto, rfl, Xsj⟩⟩
def Yba : TI := ⟨.slice 9, 1, 24, [.nil], .none⟩
theorem Xzj : Yba.ok Try.prog 37 := ⟨Try.underlying37, ⟨Try.t37, _, Xbp Try.type37, rfl, rfl, rfl, rfl⟩, rfl, rfl, by decide, trivial⟩
def Ybb : TI := ⟨.struct [(0, 3, 1), (1, 4, 1), (2, 4, 1), (3, 4, 1)], 4, 16, [.int .i64 0, .bool false, .bool false, .bool false], .none⟩
theorem Xzk : Ybb.ok Try.prog 59 := ⟨⟨_, Try.underlying59, rfl, fun w => by simp [Try.sizeOf3, Try.sizeOf4]⟩, ⟨Try.t59, _, Xbp Try.type59, rfl, rfl, rfl, rfl⟩, rfl, rfl, by decide, trivial⟩
def Ybc : TI := ⟨.struct [(0, 3, 1), (1, 3, 1), (2, 3, 1)], 3, 24, [.int .i64 0, .int .i64 0, .int .i64 0], .none⟩
theorem Xzl : Ybc.ok Try.prog 61 := ⟨⟨_, Try.underlying61, rfl, fun w => by simp [Try.sizeOf3]⟩, ⟨Try.t61, _, Xbp Try.type61, rfl, rfl, rfl, rfl⟩, rfl, rfl, by decide, trivial⟩
def Ybd : TI := ⟨.struct [(0, 3, 1), (1, 3, 1), (2, 28, 1), (3, 28, 1)], 4, 64, [.int .i64 0, .int .i64 0, .nil, .nil], .none⟩
theorem Xzm : Ybd.ok Try.prog 63 := ⟨⟨_, Try.underlying63, rfl, fun w => by simp [Try.sizeOf28, Try.sizeOf3]⟩, ⟨Try.t63, _, Xbp Try.type63, rfl, rfl, rfl, rfl⟩, rfl, rfl, by decide, trivial⟩
def Ybe : TI := ⟨.struct [(0, 3, 1), (1, 4, 1), (2, 4, 1), (3, 4, 1)], 4, 16, [.int .i64 0, .bool false, .bool false, .bool false], .none⟩
theorem Xzn : Ybe.ok Try.prog 64 := ⟨⟨_, Try.underlying64, rfl, fun w => by simp [Try.sizeOf3, Try.sizeOf4]⟩, ⟨Try.t64, _, Xbp Try.type64, rfl, rfl, rfl, rfl⟩, rfl, rfl, by decide, trivial⟩
def Ybf : TI := ⟨.struct [(0, 3, 1), (1, 3, 1), (2, 3, 1)], 3, 24, [.int .i64 0, .int .i64 0, .int .i64 0], .none⟩
theorem Xzo : Ybf.ok Try.prog 65 := ⟨⟨_, Try.underlying65, rfl, fun w => by simp [Try.sizeOf3]⟩, ⟨Try.t65, _, Xbp Try.type65, rfl, rfl, rfl, rfl⟩, rfl, rfl, by decide, trivial⟩
def Ybg : TI := ⟨.struct [(0, 63, 4), (4, 64, 4), (8, 65, 3), (11, 3, 1), (12, 3, 1), (13, 3, 1), (14, 3, 1), (15, 4, 1), (16, 25, 3)], 19, 176, [.int .i64 0, .int .i64 0, .nil, .nil, .int .i64 0, .bool false, .bool false, .bool false, .int .i64 0, .int .i64 0, .int .i64 0, .int .i64 0, .int .i64 0, .int .i64 0, .int .i64 0, .bool false, .int .i64 0, .int .i64 0, .str ⟨#[]⟩], .none⟩
theorem Xzp : Ybg.ok Try.prog 67 := ⟨⟨_, Try.underlying67, rfl, fun w => by simp [Try.sizeOf25, Try.sizeOf3, Try.sizeOf4, Try.sizeOf63, Try.sizeOf64, Try.sizeOf65]⟩, ⟨Try.t67, _, Xbp Try.type67, rfl, rfl, rfl, rfl⟩, rfl, rfl, by decide, trivial⟩
def Ybh : TI := ⟨.struct [(0, 3, 1), (1, 3, 1), (2, 28, 1), (3, 28, 1)], 4, 64, [.int .i64 0, .int .i64 0, .nil, .nil], .none⟩
theorem Xzq : Ybh.ok Try.prog 75 := ⟨⟨_, Try.underlying75, rfl, fun w => by simp [Try.sizeOf28, Try.sizeOf3]⟩, ⟨Try.t75, _, Xbp Try.type75, rfl, rfl, rfl, rfl⟩, rfl, rfl, by decide, trivial⟩
def Ybi : TI := ⟨.struct [(0, 3, 1), (1, 3, 1), (2, 9, 1)], 3, 32, [.int .i64 0, .int .i64 0, .str ⟨#[]⟩], .none⟩
theorem Xzr : Ybi.ok Try.prog 76 := ⟨⟨_, Try.underlying76, rfl, fun w => by simp [Try.sizeOf3, Try.sizeOf9]⟩, ⟨Try.t76, _, Xbp Try.type76, rfl, rfl, rfl, rfl⟩, rfl, rfl, by decide, trivial⟩
def Ybj : TI := ⟨.struct [(0, 75, 4), (4, 59, 4), (8, 61, 3), (11, 3, 1), (12, 3, 1), (13, 3, 1), (14, 3, 1), (15, 4, 1), (16, 76, 3)], 19, 176, [.int .i64 0, .int .i64 0, .nil, .nil, .int .i64 0, .bool false, .bool false, .bool false, .int .i64 0, .int .i64 0, .int .i64 0, .int .i64 0, .int .i64 0, .int .i64 0, .int .i64 0, .bool false, .int .i64 0, .int .i64 0, .str ⟨#[]⟩], .none⟩
theorem Xzs : Ybj.ok Try.prog 78 := ⟨⟨_, Try.underlying78, rfl, fun w => by simp [Try.sizeOf3, Try.sizeOf4, Try.sizeOf59, Try.sizeOf61, Try.sizeOf75, Try.sizeOf76]⟩, ⟨Try.t78, _, Xbp Try.type78, rfl, rfl, rfl, rfl⟩, rfl, rfl, by decide, trivial⟩
def Yae : TI := ⟨.int .u64, 1, 8, [.int .u64 0], .ints .u64⟩
theorem Xx9 : Yae.ok Try.prog 136 := ⟨Try.underlying136, ⟨Try.t136, _, Xbp Try.type136, rfl, rfl, rfl, rfl⟩, rfl, rfl, by decide, ⟨rfl, rfl⟩⟩
def Yaf : TI := ⟨.slice 28, 1, 24, [.nil], .none⟩
theorem Xya : Yaf.ok Try.prog 163 := ⟨Try.underlying163, ⟨Try.t163, _, Xbp Try.type163, rfl, rfl, rfl, rfl⟩, rfl, rfl, by decide, trivial⟩
def T : Nat → Option TI := lkT [(3, ti3), (4, ti4), (9, ti9), (5, ti5), (22, Ya7), (25, Ya8), (28, Ya9), (37, Yba), (59, Ybb), (61, Ybc), (63, Ybd), (64, Ybe), (65, Ybf), (67, Ybg), (75, Ybh), (76, Ybi), (78, Ybj), (136, Yae), (163, Yaf)]
theorem hT : TOk Try.prog T := Xy2 (by
 intro p hp
 simp only [List.mem_cons, List.not_mem_nil, or_false] at hp
 rcases hp with rfl | rfl | rfl | rfl | rfl | rfl | rfl | rfl | rfl | rfl | rfl | rfl | rfl | rfl | rfl | rfl | rfl | rfl | rfl
 ·
  exact Yag
 ·
  exact Yah
 ·
  exact Yaj
 ·
  exact Yai
 ·
  exact Xzg
 ·
  exact Xzh
 ·
  exact Xzi
 ·
  exact Xzj
 ·
  exact Xzk
 ·
  exact Xzl
 ·
  exact Xzm
 ·
  exact Xzn
 ·
  exact Xzo
 ·
  exact Xzp
 ·
  exact Xzq
 ·
  exact Xzr
 ·
  exact Xzs
 ·
  exact Xx9
 ·
  exact Xya)
theorem hm : Try.prog.follows .mixedOrders = true := by kernel_rfl
theorem Yax (d : Nat) (w : World) (x0 y0 : Int) (x1 y1 : Int) (x2 y2 : ByteArray) : (Op.equalIn (d + 2) 25 (.agg #[.int .i64 x0, .int .i64 x1, .string x2]) (.agg #[.int .i64 y0, .int .i64 y1, .string y2])).run Try.prog w = .ok ((x0 == y0) && ((x1 == y1) && (x2.toList == y2.toList))) w := by
 refine Xz0 Try.underlying25 (by kernel_rfl) ?_
 refine Xug (by rfl) (by go_simp; rfl) (by go_simp; rfl) (by go_simp) ?_
 refine Xug (by rfl) (by go_simp; rfl) (by go_simp; rfl) (by go_simp) ?_
 exact Xxo (by rfl) (by go_simp; rfl) (by go_simp; rfl) (by go_simp)
theorem Xz1 {x0 y0 : Int} {x1 y1 : Int} {x2 y2 : ByteArray} : EqT Try.prog 25 [.int .i64 x0, .int .i64 x1, .str x2] [.int .i64 y0, .int .i64 y1, .str y2] ((x0 == y0) && ((x1 == y1) && (x2.toList == y2.toList))) := ⟨by kernel_rfl, rfl, rfl, fun w => Yax 9998 w _ _ _ _ _ _⟩
end Go.Proofs.Ytlebkepfhdjnmab.A
