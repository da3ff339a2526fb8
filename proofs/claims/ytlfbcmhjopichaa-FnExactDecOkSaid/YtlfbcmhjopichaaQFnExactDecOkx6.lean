/- Contracts of the functions that a law reaches: each Go function comes to what its Lean function tells. Written by this session's own program. Conditions: as each statement tells. -/
import Derived.Test.YtlfbcmhjopichaaQFnExactDecOkx0
import Derived.Test.YtlfbcmhjopichaaQFnExactDecOkx1
import Derived.Test.YtlfbcmhjopichaaQFnExactDecOkx3
import Derived.Test.YtlfbcmhjopichaaQFnExactDecOkx4
import Derived.Test.YtlfbcmhjopichaaQFnExactDecOkx5
namespace Go.Proofs.Ytlfbcmhjopichaa.QFnExactDecOk
open Go.RowKit Go.Proofs.YtlfbcmhjopichaaW.PrintWords Go.Proofs.YtlfbcmhjopichaaW.PrintLast Go.Proofs.YtlfbcmhjopichaaW.PrintMore
attribute [local go_sem] i64_w i32_w w64_m256 max2_int min2_int max_two min_two max_three min_three max_four min_four   -- for this text's walks alone
set_option linter.unusedVariables false
set_option linter.unusedSimpArgs false

attribute [local go_sem high] eqA37
/-! ### spec_DecOk: function 49 -/
mutual
def spec_DecOk.j0 : Nat → Bool → Bool → Bool → Bool → Int → Int → List Int → List Int → Int → Bool → Bool → Bool → Int → Int → Int → Int → ByteArray → Int → Int → ByteArray → Option (Bool)
  | 0, _, _, _, _, _, _, _, _, _, _, _, _, _, _, _, _, _, _, _, _ => none
  | k + 1, x90, x154000, x154001, x154002, x154003, x154004, x154005, x154006, x154007, x154008, x154009, x154010, x154011, x154012, x154013, x154014, x154015, x154016, x154017, x154018 => if x90 = true then (some false) else (if x154011 < (-1) then (spec_DecOk.j1 k true x154000 x154001 x154002 x154003 x154004 x154005 x154006 x154007 x154008 x154009 x154010 x154011 x154012 x154013 x154014 x154015 x154016 x154017 x154018) else (if 0 ≤ (IntKind.u64.wrap (x154004)) then (if x154011 ≥ (shl .i64 1 (IntKind.u64.wrap (x154004))) then (spec_DecOk.j1 k true x154000 x154001 x154002 x154003 x154004 x154005 x154006 x154007 x154008 x154009 x154010 x154011 x154012 x154013 x154014 x154015 x154016 x154017 x154018) else (if x154012 < 0 then (spec_DecOk.j1 k true x154000 x154001 x154002 x154003 x154004 x154005 x154006 x154007 x154008 x154009 x154010 x154011 x154012 x154013 x154014 x154015 x154016 x154017 x154018) else ((spec_TilesOf.f k x154003 x154004 x154005 x154006).bind fun t158 => (if x154012 ≥ t158 then (spec_DecOk.j1 k true x154000 x154001 x154002 x154003 x154004 x154005 x154006 x154007 x154008 x154009 x154010 x154011 x154012 x154013 x154014 x154015 x154016 x154017 x154018) else (if x154001 = true then (spec_DecOk.j1 k false x154000 x154001 x154002 x154003 x154004 x154005 x154006 x154007 x154008 x154009 x154010 x154011 x154012 x154013 x154014 x154015 x154016 x154017 x154018) else (if x154012 > 0 then (spec_DecOk.j1 k true x154000 x154001 x154002 x154003 x154004 x154005 x154006 x154007 x154008 x154009 x154010 x154011 x154012 x154013 x154014 x154015 x154016 x154017 x154018) else (spec_DecOk.j1 k x154002 x154000 x154001 x154002 x154003 x154004 x154005 x154006 x154007 x154008 x154009 x154010 x154011 x154012 x154013 x154014 x154015 x154016 x154017 x154018))))))) else (none)))
def spec_DecOk.j1 : Nat → Bool → Bool → Bool → Bool → Int → Int → List Int → List Int → Int → Bool → Bool → Bool → Int → Int → Int → Int → ByteArray → Int → Int → ByteArray → Option (Bool)
  | 0, _, _, _, _, _, _, _, _, _, _, _, _, _, _, _, _, _, _, _, _ => none
  | k + 1, x130, x154000, x154001, x154002, x154003, x154004, x154005, x154006, x154007, x154008, x154009, x154010, x154011, x154012, x154013, x154014, x154015, x154016, x154017, x154018 => if x130 = true then (some false) else (if x154012 > 0 then (if x154011 = (-1) then (spec_DecOk.j2 k true x154000 x154001 x154002 x154003 x154004 x154005 x154006 x154007 x154008 x154009 x154010 x154011 x154012 x154013 x154014 x154015 x154016 x154017 x154018) else ((spec_l20Sized.f k x154013 x154014 x154015 x154003 x154004 x154005 x154006).bind fun t159 => (if t159 = true then (if x154012 = 0 then ((spec_l20None.f x154013 x154014 x154015).bind fun t160 => (spec_DecOk.j2 k (!t160) x154000 x154001 x154002 x154003 x154004 x154005 x154006 x154007 x154008 x154009 x154010 x154011 x154012 x154013 x154014 x154015 x154016 x154017 x154018)) else (spec_DecOk.j2 k false x154000 x154001 x154002 x154003 x154004 x154005 x154006 x154007 x154008 x154009 x154010 x154011 x154012 x154013 x154014 x154015 x154016 x154017 x154018)) else (spec_DecOk.j2 k true x154000 x154001 x154002 x154003 x154004 x154005 x154006 x154007 x154008 x154009 x154010 x154011 x154012 x154013 x154014 x154015 x154016 x154017 x154018)))) else (if x154012 = 0 then ((spec_l20None.f x154013 x154014 x154015).bind fun t161 => (spec_DecOk.j2 k (!t161) x154000 x154001 x154002 x154003 x154004 x154005 x154006 x154007 x154008 x154009 x154010 x154011 x154012 x154013 x154014 x154015 x154016 x154017 x154018)) else (spec_DecOk.j2 k false x154000 x154001 x154002 x154003 x154004 x154005 x154006 x154007 x154008 x154009 x154010 x154011 x154012 x154013 x154014 x154015 x154016 x154017 x154018)))
def spec_DecOk.j2 : Nat → Bool → Bool → Bool → Bool → Int → Int → List Int → List Int → Int → Bool → Bool → Bool → Int → Int → Int → Int → ByteArray → Int → Int → ByteArray → Option (Bool)
  | 0, _, _, _, _, _, _, _, _, _, _, _, _, _, _, _, _, _, _, _, _ => none
  | k + 1, x157, x154000, x154001, x154002, x154003, x154004, x154005, x154006, x154007, x154008, x154009, x154010, x154011, x154012, x154013, x154014, x154015, x154016, x154017, x154018 => if x157 = true then (some false) else (if x154002 = true then ((spec_l20Sized.f k x154016 x154017 x154018 x154003 x154004 x154005 x154006).bind fun t162 => (if t162 = true then (some true) else (some false))) else ((spec_l20None.f x154016 x154017 x154018).bind fun t163 => (some t163)))
end
def spec_DecOk.f (k : Nat) (a0_0 : Bool) (a0_1 : Bool) (a0_2 : Bool) (a0_3 : Int) (a0_4 : Int) (l0_5 : List Int) (l0_6 : List Int) (a0_7 : Int) (a0_8 : Bool) (a0_9 : Bool) (a0_10 : Bool) (a0_11 : Int) (a0_12 : Int) (a0_13 : Int) (a0_14 : Int) (a0_15 : ByteArray) (a0_16 : Int) (a0_17 : Int) (a0_18 : ByteArray) : Option (Bool) := if a0_0 = true then ((spec_SeqOk.f k a0_3 a0_4 l0_5 l0_6).bind fun t156 => (if t156 = true then (if a0_1 = true then ((spec_ParOk.f a0_7 a0_8 a0_9 a0_10).bind fun t157 => (if t157 = true then (spec_DecOk.j0 k false a0_0 a0_1 a0_2 a0_3 a0_4 l0_5 l0_6 a0_7 a0_8 a0_9 a0_10 a0_11 a0_12 a0_13 a0_14 a0_15 a0_16 a0_17 a0_18) else (spec_DecOk.j0 k true a0_0 a0_1 a0_2 a0_3 a0_4 l0_5 l0_6 a0_7 a0_8 a0_9 a0_10 a0_11 a0_12 a0_13 a0_14 a0_15 a0_16 a0_17 a0_18))) else (spec_DecOk.j0 k (!(a0_7 == 0) || (a0_8 || (a0_9 || (a0_10)))) a0_0 a0_1 a0_2 a0_3 a0_4 l0_5 l0_6 a0_7 a0_8 a0_9 a0_10 a0_11 a0_12 a0_13 a0_14 a0_15 a0_16 a0_17 a0_18)) else (spec_DecOk.j0 k true a0_0 a0_1 a0_2 a0_3 a0_4 l0_5 l0_6 a0_7 a0_8 a0_9 a0_10 a0_11 a0_12 a0_13 a0_14 a0_15 a0_16 a0_17 a0_18))) else (if a0_1 = true then (some false) else (if a0_2 = true then (some false) else (if a0_3 = 0 then (if a0_4 = 0 then (if (l0_5.length : Int) = 0 then (if (l0_6.length : Int) = 0 then (if (a0_7 == 0 && (!a0_8 && (!a0_9 && (!a0_10)))) = true then (if a0_11 = (-1) then (if a0_12 = 0 then ((spec_l20None.f a0_13 a0_14 a0_15).bind fun t154 => (if t154 = true then ((spec_l20None.f a0_16 a0_17 a0_18).bind fun t155 => (some t155)) else (some false))) else (some false)) else (some false)) else (some false)) else (some false)) else (some false)) else (some false)) else (some false))))
theorem spec_DecOk.mono_l : ∀ k, (∀ y0 y1 y2 y3 y4 y5 y6 y7 y8 y9 y10 y11 y12 y13 y14 y15 y16 y17 y18 y19, LeO (spec_DecOk.j0 k y0 y1 y2 y3 y4 y5 y6 y7 y8 y9 y10 y11 y12 y13 y14 y15 y16 y17 y18 y19) (spec_DecOk.j0 (k + 1) y0 y1 y2 y3 y4 y5 y6 y7 y8 y9 y10 y11 y12 y13 y14 y15 y16 y17 y18 y19)) ∧ (∀ y0 y1 y2 y3 y4 y5 y6 y7 y8 y9 y10 y11 y12 y13 y14 y15 y16 y17 y18 y19, LeO (spec_DecOk.j1 k y0 y1 y2 y3 y4 y5 y6 y7 y8 y9 y10 y11 y12 y13 y14 y15 y16 y17 y18 y19) (spec_DecOk.j1 (k + 1) y0 y1 y2 y3 y4 y5 y6 y7 y8 y9 y10 y11 y12 y13 y14 y15 y16 y17 y18 y19)) ∧ (∀ y0 y1 y2 y3 y4 y5 y6 y7 y8 y9 y10 y11 y12 y13 y14 y15 y16 y17 y18 y19, LeO (spec_DecOk.j2 k y0 y1 y2 y3 y4 y5 y6 y7 y8 y9 y10 y11 y12 y13 y14 y15 y16 y17 y18 y19) (spec_DecOk.j2 (k + 1) y0 y1 y2 y3 y4 y5 y6 y7 y8 y9 y10 y11 y12 y13 y14 y15 y16 y17 y18 y19))
  | 0 => ⟨fun _ _ _ _ _ _ _ _ _ _ _ _ _ _ _ _ _ _ _ _ r h => by simp [spec_DecOk.j0] at h, fun _ _ _ _ _ _ _ _ _ _ _ _ _ _ _ _ _ _ _ _ r h => by simp [spec_DecOk.j1] at h, fun _ _ _ _ _ _ _ _ _ _ _ _ _ _ _ _ _ _ _ _ r h => by simp [spec_DecOk.j2] at h⟩
  | k + 1 => by
    obtain ⟨ih0, ih1, ih2⟩ := spec_DecOk.mono_l k
    refine ⟨?_, ?_, ?_⟩
    · intro y0 y1 y2 y3 y4 y5 y6 y7 y8 y9 y10 y11 y12 y13 y14 y15 y16 y17 y18 y19
      unfold spec_DecOk.j0
      repeat' first
      | (with_reducible exact ih0 _ _ _ _ _ _ _ _ _ _ _ _ _ _ _ _ _ _ _ _)
      | (with_reducible exact ih1 _ _ _ _ _ _ _ _ _ _ _ _ _ _ _ _ _ _ _ _)
      | (with_reducible exact ih2 _ _ _ _ _ _ _ _ _ _ _ _ _ _ _ _ _ _ _ _)
      | (with_reducible exact spec_SeqOk.mono _ _ _ _ _)
      | (with_reducible exact spec_TilesOf.mono _ _ _ _ _)
      | (with_reducible exact spec_l20Sized.mono _ _ _ _ _ _ _ _)
      | (with_reducible exact LeO.refl _)
      | (with_reducible exact LeO.none _)
      | (with_reducible refine LeO.ite ?_ ?_)
      | (with_reducible refine LeO.bind ?_ (fun _ => ?_))
      | exact ih0 _ _ _ _ _ _ _ _ _ _ _ _ _ _ _ _ _ _ _ _
      | exact ih1 _ _ _ _ _ _ _ _ _ _ _ _ _ _ _ _ _ _ _ _
      | exact ih2 _ _ _ _ _ _ _ _ _ _ _ _ _ _ _ _ _ _ _ _
      | exact spec_SeqOk.mono _ _ _ _ _
      | exact spec_TilesOf.mono _ _ _ _ _
      | exact spec_l20Sized.mono _ _ _ _ _ _ _ _
      | exact LeO.none _
      | refine LeO.ite ?_ ?_
      | refine LeO.bind ?_ (fun _ => ?_)
    · intro y0 y1 y2 y3 y4 y5 y6 y7 y8 y9 y10 y11 y12 y13 y14 y15 y16 y17 y18 y19
      unfold spec_DecOk.j1
      repeat' first
      | (with_reducible exact ih0 _ _ _ _ _ _ _ _ _ _ _ _ _ _ _ _ _ _ _ _)
      | (with_reducible exact ih1 _ _ _ _ _ _ _ _ _ _ _ _ _ _ _ _ _ _ _ _)
      | (with_reducible exact ih2 _ _ _ _ _ _ _ _ _ _ _ _ _ _ _ _ _ _ _ _)
      | (with_reducible exact spec_SeqOk.mono _ _ _ _ _)
      | (with_reducible exact spec_TilesOf.mono _ _ _ _ _)
      | (with_reducible exact spec_l20Sized.mono _ _ _ _ _ _ _ _)
      | (with_reducible exact LeO.refl _)
      | (with_reducible exact LeO.none _)
      | (with_reducible refine LeO.ite ?_ ?_)
      | (with_reducible refine LeO.bind ?_ (fun _ => ?_))
      | exact ih0 _ _ _ _ _ _ _ _ _ _ _ _ _ _ _ _ _ _ _ _
      | exact ih1 _ _ _ _ _ _ _ _ _ _ _ _ _ _ _ _ _ _ _ _
      | exact ih2 _ _ _ _ _ _ _ _ _ _ _ _ _ _ _ _ _ _ _ _
      | exact spec_SeqOk.mono _ _ _ _ _
      | exact spec_TilesOf.mono _ _ _ _ _
      | exact spec_l20Sized.mono _ _ _ _ _ _ _ _
      | exact LeO.none _
      | refine LeO.ite ?_ ?_
      | refine LeO.bind ?_ (fun _ => ?_)
    · intro y0 y1 y2 y3 y4 y5 y6 y7 y8 y9 y10 y11 y12 y13 y14 y15 y16 y17 y18 y19
      unfold spec_DecOk.j2
      repeat' first
      | (with_reducible exact ih0 _ _ _ _ _ _ _ _ _ _ _ _ _ _ _ _ _ _ _ _)
      | (with_reducible exact ih1 _ _ _ _ _ _ _ _ _ _ _ _ _ _ _ _ _ _ _ _)
      | (with_reducible exact ih2 _ _ _ _ _ _ _ _ _ _ _ _ _ _ _ _ _ _ _ _)
      | (with_reducible exact spec_SeqOk.mono _ _ _ _ _)
      | (with_reducible exact spec_TilesOf.mono _ _ _ _ _)
      | (with_reducible exact spec_l20Sized.mono _ _ _ _ _ _ _ _)
      | (with_reducible exact LeO.refl _)
      | (with_reducible exact LeO.none _)
      | (with_reducible refine LeO.ite ?_ ?_)
      | (with_reducible refine LeO.bind ?_ (fun _ => ?_))
      | exact ih0 _ _ _ _ _ _ _ _ _ _ _ _ _ _ _ _ _ _ _ _
      | exact ih1 _ _ _ _ _ _ _ _ _ _ _ _ _ _ _ _ _ _ _ _
      | exact ih2 _ _ _ _ _ _ _ _ _ _ _ _ _ _ _ _ _ _ _ _
      | exact spec_SeqOk.mono _ _ _ _ _
      | exact spec_TilesOf.mono _ _ _ _ _
      | exact spec_l20Sized.mono _ _ _ _ _ _ _ _
      | exact LeO.none _
      | refine LeO.ite ?_ ?_
      | refine LeO.bind ?_ (fun _ => ?_)
theorem spec_DecOk.mono : ∀ a0 a1 a2 a3 a4 a5 a6 a7 a8 a9 a10 a11 a12 a13 a14 a15 a16 a17 a18 k, LeO (spec_DecOk.f k a0 a1 a2 a3 a4 a5 a6 a7 a8 a9 a10 a11 a12 a13 a14 a15 a16 a17 a18) (spec_DecOk.f (k + 1) a0 a1 a2 a3 a4 a5 a6 a7 a8 a9 a10 a11 a12 a13 a14 a15 a16 a17 a18) := by
  intro a0 a1 a2 a3 a4 a5 a6 a7 a8 a9 a10 a11 a12 a13 a14 a15 a16 a17 a18 k
  obtain ⟨ih0, ih1, ih2⟩ := spec_DecOk.mono_l k
  unfold spec_DecOk.f
  repeat' first
      | (with_reducible exact ih0 _ _ _ _ _ _ _ _ _ _ _ _ _ _ _ _ _ _ _ _)
      | (with_reducible exact ih1 _ _ _ _ _ _ _ _ _ _ _ _ _ _ _ _ _ _ _ _)
      | (with_reducible exact ih2 _ _ _ _ _ _ _ _ _ _ _ _ _ _ _ _ _ _ _ _)
      | (with_reducible exact spec_SeqOk.mono _ _ _ _ _)
      | (with_reducible exact spec_TilesOf.mono _ _ _ _ _)
      | (with_reducible exact spec_l20Sized.mono _ _ _ _ _ _ _ _)
      | (with_reducible exact LeO.refl _)
      | (with_reducible exact LeO.none _)
      | (with_reducible refine LeO.ite ?_ ?_)
      | (with_reducible refine LeO.bind ?_ (fun _ => ?_))
      | exact ih0 _ _ _ _ _ _ _ _ _ _ _ _ _ _ _ _ _ _ _ _
      | exact ih1 _ _ _ _ _ _ _ _ _ _ _ _ _ _ _ _ _ _ _ _
      | exact ih2 _ _ _ _ _ _ _ _ _ _ _ _ _ _ _ _ _ _ _ _
      | exact spec_SeqOk.mono _ _ _ _ _
      | exact spec_TilesOf.mono _ _ _ _ _
      | exact spec_l20Sized.mono _ _ _ _ _ _ _ _
      | exact LeO.none _
      | refine LeO.ite ?_ ?_
      | refine LeO.bind ?_ (fun _ => ?_)
def spec_DecOk.T5 : Bool × List (List Nat × List Nat) := (true, [([], []), ([0], [0]), ([1], [1]), ([2], [2]), ([3], [3]), ([4, 3], [3, 4]), ([3], [3]), ([6, 3], [3, 6]), ([7, 3], [3, 7]), ([8, 3], [3, 8]), ([9, 3], [3, 9]), ([5, 10, 3], [3, 5, 10]), ([3, 11], [3, 11]), ([12, 3], [12]), ([13], [13]), ([14, 13], [13, 14]), ([15, 13], [13, 15]), ([13, 16], [13, 16]), ([17, 13], [17]), ([18], [18]), ([19, 18], [18, 19]), ([18], [18]), ([21, 18], [18, 21]), ([22, 18, 18], [18, 22]), ([20, 23, 18], [18, 20, 23]), ([18, 24], [18, 24]), ([25, 23], [25]), ([26], [26]), ([27, 26], [26, 27]), ([28, 26], [26, 28]), ([29, 26, 26], [26, 29]), ([30], [30]), ([31, 30], [30, 31]), ([32, 30], [30, 32]), ([33, 30, 30], [30, 33]), ([34], [34]), ([35, 34], [34, 35]), ([34, 36, 30], [30, 34, 36]), ([30, 37, 26], [26, 30, 37]), ([26, 38], [26, 38])])
def spec_DecOk.B5 : List Nat := [0, 1, 3, 7, 15, 31, 15, 79, 207, 463, 975, 2047, 4095, 8191, 16383, 32767, 65535, 131071, 262143, 524287, 1048575, 524287, 2621439, 6815743, 16777215, 33554431, 67108863, 134217727, 268435455, 536870911, 1073741823, 2147483647, 4294967295, 8589934591, 17179869183, 34359738367, 68719476735, 137438953471, 274877906943, 549755813887]
theorem spec_DecOk.tab5 : rtab .any (opsOf Try.f49 5) = spec_DecOk.T5 := by kernel_rfl
theorem spec_DecOk.bits5 : waitsOk spec_DecOk.T5.2 spec_DecOk.B5 = true := by kernel_rfl
set_option maxHeartbeats 8000000 in
set_option maxRecDepth 100000 in
theorem spec_DecOk.calls (k : Nat) (a0_0 : Bool) (a0_1 : Bool) (a0_2 : Bool) (a0_3 : Int) (a0_4 : Int) (A0_5 : Option Addr) (c0_5 : Nat) (l0_5 : List Int) (A0_6 : Option Addr) (c0_6 : Nat) (l0_6 : List Int) (a0_7 : Int) (a0_8 : Bool) (a0_9 : Bool) (a0_10 : Bool) (a0_11 : Int) (a0_12 : Int) (a0_13 : Int) (a0_14 : Int) (a0_15 : ByteArray) (a0_16 : Int) (a0_17 : Int) (a0_18 : ByteArray) (r : Bool) (w : World) (hr0_5 : Kd.C (Kd.int .i64) w A0_5 l0_5.length l0_5) (hc0_5 : l0_5.length ≤ c0_5) (hr0_6 : Kd.C (Kd.int .i64) w A0_6 l0_6.length l0_6) (hc0_6 : l0_6.length ≤ c0_6) (h : spec_DecOk.f k a0_0 a0_1 a0_2 a0_3 a0_4 l0_5 l0_6 a0_7 a0_8 a0_9 a0_10 a0_11 a0_12 a0_13 a0_14 a0_15 a0_16 a0_17 a0_18 = some r) :
    Calls Try.prog 49 #[.agg #[.bool a0_0, .bool a0_1, .bool a0_2, .int .i64 a0_3, .int .i64 a0_4, .slice A0_5 l0_5.length c0_5, .slice A0_6 l0_6.length c0_6, .int .i64 a0_7, .bool a0_8, .bool a0_9, .bool a0_10, .int .i64 a0_11, .int .i64 a0_12, .int .i64 a0_13, .int .i64 a0_14, .string a0_15, .int .i64 a0_16, .int .i64 a0_17, .string a0_18]] w fun e w' => e = .returned (.bool r) ∧ Below w.heap.size w w' := by
  have hu41 := Try.underlying41
  have hu37 := Try.underlying37
  have hu39 := Try.underlying39
  have hu35 := Try.underlying35
  have HR0_5 := Aside0.mk hr0_5
  have HC0_5 := Aside0.mk hc0_5
  clear hr0_5 hc0_5
  have HR0_6 := Aside0.mk hr0_6
  have HC0_6 := Aside0.mk hc0_6
  clear hr0_6 hc0_6
  have HB := Aside0.mk (Below.refl w.heap.size w)
  have H : (if a0_0 = true then ((spec_SeqOk.f k a0_3 a0_4 l0_5 l0_6).bind fun t156 => (if t156 = true then (if a0_1 = true then ((spec_ParOk.f a0_7 a0_8 a0_9 a0_10).bind fun t157 => (if t157 = true then (spec_DecOk.j0 k false a0_0 a0_1 a0_2 a0_3 a0_4 l0_5 l0_6 a0_7 a0_8 a0_9 a0_10 a0_11 a0_12 a0_13 a0_14 a0_15 a0_16 a0_17 a0_18) else (spec_DecOk.j0 k true a0_0 a0_1 a0_2 a0_3 a0_4 l0_5 l0_6 a0_7 a0_8 a0_9 a0_10 a0_11 a0_12 a0_13 a0_14 a0_15 a0_16 a0_17 a0_18))) else (spec_DecOk.j0 k (!(a0_7 == 0) || (a0_8 || (a0_9 || (a0_10)))) a0_0 a0_1 a0_2 a0_3 a0_4 l0_5 l0_6 a0_7 a0_8 a0_9 a0_10 a0_11 a0_12 a0_13 a0_14 a0_15 a0_16 a0_17 a0_18)) else (spec_DecOk.j0 k true a0_0 a0_1 a0_2 a0_3 a0_4 l0_5 l0_6 a0_7 a0_8 a0_9 a0_10 a0_11 a0_12 a0_13 a0_14 a0_15 a0_16 a0_17 a0_18))) else (if a0_1 = true then (some false) else (if a0_2 = true then (some false) else (if a0_3 = 0 then (if a0_4 = 0 then (if (l0_5.length : Int) = 0 then (if (l0_6.length : Int) = 0 then (if (a0_7 == 0 && (!a0_8 && (!a0_9 && (!a0_10)))) = true then (if a0_11 = (-1) then (if a0_12 = 0 then ((spec_l20None.f a0_13 a0_14 a0_15).bind fun t154 => (if t154 = true then ((spec_l20None.f a0_16 a0_17 a0_18).bind fun t155 => (some t155)) else (some false))) else (some false)) else (some false)) else (some false)) else (some false)) else (some false)) else (some false)) else (some false))))) = some r := h
  clear h
  by_cases c2 : a0_0 = true
  · subst c2
    rw [if_pos rfl] at H
    have HC3 := Aside0.mk H
    clear H
    as_aux_lemma =>
    go_enter Try.func49, Try.ntmps49
    go_upto_region 3 with (first | ((with_reducible refine gate_dst (N := 1) rfl ?_); (try (refine gate_guard (by rfl) ?_; dsimp only)); refine box_event ?hg (N := 1) ?hd (cs := #[.bool true, .bool a0_1, .bool a0_2, .int .i64 a0_3, .int .i64 a0_4, .slice A0_5 l0_5.length c0_5, .slice A0_6 l0_6.length c0_6, .int .i64 a0_7, .bool a0_8, .bool a0_9, .bool a0_10, .int .i64 a0_11, .int .i64 a0_12, .int .i64 a0_13, .int .i64 a0_14, .string a0_15, .int .i64 a0_16, .int .i64 a0_17, .string a0_18]) (t := 41) ?hr ?_; (case hd => rfl); (case hg => rfl); (case hr => first | (go_simp; done) | (go_simp; rfl)); intro gb153 hg w4 hbox hb; have n0_ := bs HB hb; have n1_ := Aside0.mk (hbox); have n2_ := bz hg; have n3_ := bz hg; clear HB; have HB := n0_; have BK153 := n1_; have GW153 := n2_; have GE153 := n3_; clear n0_ n1_ n2_ n3_; clear hb hbox hg; have hcz5_0 : ∀ i, w4.cell? ⟨gb153, i, none⟩ = _ := blk_cell BK153.out; have hfz5_0 := blk_frozen BK153.out))
    (try simp only [Act.put, List.setIfInBounds_toArray, List.set_cons_zero, List.set_cons_succ])
    go_cut [90] (fun v90 wc => ∃ (kq : Nat) (x90_2 : Bool), v90 = .bool x90_2 ∧ Aside0 (spec_DecOk.j0 kq x90_2 true a0_1 a0_2 a0_3 a0_4 l0_5 l0_6 a0_7 a0_8 a0_9 a0_10 a0_11 a0_12 a0_13 a0_14 a0_15 a0_16 a0_17 a0_18 = some r) ∧ Aside0 (kq ≤ k) ∧ Aside0 (wc.heap[gb153]? = some (.cells #[.bool true, .bool a0_1, .bool a0_2, .int .i64 a0_3, .int .i64 a0_4, (.slice A0_5 l0_5.length c0_5), (.slice A0_6 l0_6.length c0_6), .int .i64 a0_7, .bool a0_8, .bool a0_9, .bool a0_10, .int .i64 a0_11, .int .i64 a0_12, .int .i64 a0_13, .int .i64 a0_14, .string a0_15, .int .i64 a0_16, .int .i64 a0_17, .string a0_18] 41 (0, 0))) ∧ Aside0 (Below w.heap.size w wc))
    case first =>
      have H := HC3.out
      clear HC3
      replace H := Option.bind_eq_some_iff.mp H
      obtain ⟨t156, A60, H⟩ := H
      (try dsimp only at H)
      have A6 := Aside0.mk A60
      clear A60
      by_cases c7 : t156 = true
      · subst c7
        rw [if_pos rfl] at H
        by_cases c8 : a0_1 = true
        · subst c8
          rw [if_pos rfl] at H
          replace H := Option.bind_eq_some_iff.mp H
          obtain ⟨t157, A90, H⟩ := H
          (try dsimp only at H)
          have A9 := Aside0.mk A90
          clear A90
          by_cases c10 : t157 = true
          · subst c10
            rw [if_pos rfl] at H
            have H' := Aside0.mk H
            clear H
            have hcz11_0 : ∀ i, w4.cell? ⟨gb153, i, none⟩ = _ := blk_cell BK153.out
            have hcz11_1 : w4.cell? ⟨gb153, 1, none⟩ = some (.bool true) := (blk_cell BK153.out 1).trans rfl
            have hcz11_2 : w4.cell? ⟨gb153, 2, none⟩ = some (.bool a0_2) := (blk_cell BK153.out 2).trans rfl
            have hcz11_3 : w4.cell? ⟨gb153, 3, none⟩ = some (.int .i64 a0_3) := (blk_cell BK153.out 3).trans rfl
            have hcz11_4 : w4.cell? ⟨gb153, 4, none⟩ = some (.int .i64 a0_4) := (blk_cell BK153.out 4).trans rfl
            have hcz11_5 : w4.cell? ⟨gb153, 5, none⟩ = some (.slice A0_5 l0_5.length c0_5) := (blk_cell BK153.out 5).trans rfl
            have hcz11_6 : w4.cell? ⟨gb153, 6, none⟩ = some (.slice A0_6 l0_6.length c0_6) := (blk_cell BK153.out 6).trans rfl
            have hcz11_7 : w4.cell? ⟨gb153, 7, none⟩ = some (.int .i64 a0_7) := (blk_cell BK153.out 7).trans rfl
            have hcz11_8 : w4.cell? ⟨gb153, 8, none⟩ = some (.bool a0_8) := (blk_cell BK153.out 8).trans rfl
            have hcz11_9 : w4.cell? ⟨gb153, 9, none⟩ = some (.bool a0_9) := (blk_cell BK153.out 9).trans rfl
            have hcz11_10 : w4.cell? ⟨gb153, 10, none⟩ = some (.bool a0_10) := (blk_cell BK153.out 10).trans rfl
            have hcz11_11 : w4.cell? ⟨gb153, 11, none⟩ = some (.int .i64 a0_11) := (blk_cell BK153.out 11).trans rfl
            have hcz11_12 : w4.cell? ⟨gb153, 12, none⟩ = some (.int .i64 a0_12) := (blk_cell BK153.out 12).trans rfl
            have hcz11_13 : w4.cell? ⟨gb153, 13, none⟩ = some (.int .i64 a0_13) := (blk_cell BK153.out 13).trans rfl
            have hcz11_14 : w4.cell? ⟨gb153, 14, none⟩ = some (.int .i64 a0_14) := (blk_cell BK153.out 14).trans rfl
            have hcz11_15 : w4.cell? ⟨gb153, 15, none⟩ = some (.string a0_15) := (blk_cell BK153.out 15).trans rfl
            have hcz11_16 : w4.cell? ⟨gb153, 16, none⟩ = some (.int .i64 a0_16) := (blk_cell BK153.out 16).trans rfl
            have hcz11_17 : w4.cell? ⟨gb153, 17, none⟩ = some (.int .i64 a0_17) := (blk_cell BK153.out 17).trans rfl
            have hcz11_18 : w4.cell? ⟨gb153, 18, none⟩ = some (.string a0_18) := (blk_cell BK153.out 18).trans rfl
            have hfz11_0 := blk_frozen BK153.out
            have hfz11_1 := blk_frozen BK153.out 1
            have hfz11_2 := blk_frozen BK153.out 2
            have hfz11_3 := blk_frozen BK153.out 3
            have hfz11_4 := blk_frozen BK153.out 4
            have hfz11_5 := blk_frozen BK153.out 5
            have hfz11_6 := blk_frozen BK153.out 6
            have hfz11_7 := blk_frozen BK153.out 7
            have hfz11_8 := blk_frozen BK153.out 8
            have hfz11_9 := blk_frozen BK153.out 9
            have hfz11_10 := blk_frozen BK153.out 10
            have hfz11_11 := blk_frozen BK153.out 11
            have hfz11_12 := blk_frozen BK153.out 12
            have hfz11_13 := blk_frozen BK153.out 13
            have hfz11_14 := blk_frozen BK153.out 14
            have hfz11_15 := blk_frozen BK153.out 15
            have hfz11_16 := blk_frozen BK153.out 16
            have hfz11_17 := blk_frozen BK153.out 17
            have hfz11_18 := blk_frozen BK153.out 18
            go_wp2_with (first | ((with_reducible refine gate_load (t := 41) rfl ?_); refine load_all (g := gb153) (ty := 41) rfl rfl rfl (bx BK153.out) (by kernel_rfl) (by kernel_rfl) ?_; simp only [Act.put, List.setIfInBounds_toArray, List.set_cons_zero, List.set_cons_succ]) | ((with_reducible refine gate_callee (f := 113) rfl ?_); refine goesL_ (some 68) rfl rfl Try.func113 (by kernel_rfl) rfl #[.agg #[.int .i64 a0_3, .int .i64 a0_4, .slice A0_5 l0_5.length c0_5, .slice A0_6 l0_6.length c0_6]] rfl (by (try simp only [List.map_toArray, List.map_cons, List.map_nil]); first | done | rfl | (simp only [List.length_drop, List.length_take]; rfl)) ?_; (with_reducible refine (spec_SeqOk.calls k a0_3 a0_4 _ _ l0_5 _ _ l0_6 true _ ?side1 ?side2 ?side3 ?side4 A6.out).mono ?_); (case side1 => repeat (first | exact (Kd.C_below HR0_5.out HB.out) | (with_reducible refine Kd.C_alloc ?_ _) | (with_reducible refine Kd.C_drewN ?_ _) | (with_reducible refine Kd.C_drew ?_))); (case side2 => exact HC0_5.out); (case side3 => repeat (first | exact (Kd.C_below HR0_6.out HB.out) | (with_reducible refine Kd.C_alloc ?_ _) | (with_reducible refine Kd.C_drewN ?_ _) | (with_reducible refine Kd.C_drew ?_))); (case side4 => exact HC0_6.out); rintro e w12 ⟨rfl, hb⟩; refine ⟨_, rfl, ?_⟩; have n0_ := Aside0.mk (blk_below (bx BK153.out) hb); have n1_ := bs HB hb; clear BK153; clear HB; have BK153 := n0_; have HB := n1_; clear n0_ n1_; (try clear hb); (try clear hb2); (try clear hk); (try clear hi); have hcz13_0 : ∀ i, w12.cell? ⟨gb153, i, none⟩ = _ := blk_cell BK153.out; have hfz13_0 := blk_frozen BK153.out) | (go_at_call 84; (with_reducible refine (spec_ParOk.calls a0_7 a0_8 a0_9 a0_10 true _ A9.out).mono ?_); rintro e w14 ⟨rfl, hb⟩; have n0_ := Aside0.mk (blk_below (bx BK153.out) hb); have n1_ := bs HB hb; clear BK153; clear HB; have BK153 := n0_; have HB := n1_; clear n0_ n1_; (try clear hb); (try clear hb2); (try clear hk); (try clear hi); have hcz15_0 : ∀ i, w14.cell? ⟨gb153, i, none⟩ = _ := blk_cell BK153.out; have hfz15_0 := blk_frozen BK153.out))
            go_meet
            case rel => exact ⟨_, (false), (by first | rfl | (simp; done) | (simp [*]; done)), H', ⟨by first | omega | exact Nat.le_refl _⟩, ⟨by (with_reducible repeat (first | refine blk_drewN ?_ _ | refine blk_drew ?_ | refine blk_alloc ?_ _)); exact BK153.out⟩, ⟨bl⟩⟩
          · replace c10 := Bool.eq_false_iff.mpr c10
            subst c10
            have H1 : (spec_DecOk.j0 k true true true a0_2 a0_3 a0_4 l0_5 l0_6 a0_7 a0_8 a0_9 a0_10 a0_11 a0_12 a0_13 a0_14 a0_15 a0_16 a0_17 a0_18) = some r := by rw [if_neg (show ¬ (false = true) by decide)] at H; exact H
            clear H
            have H := H1
            clear H1
            have H' := Aside0.mk H
            clear H
            have hcz16_0 : ∀ i, w4.cell? ⟨gb153, i, none⟩ = _ := blk_cell BK153.out
            have hcz16_1 : w4.cell? ⟨gb153, 1, none⟩ = some (.bool true) := (blk_cell BK153.out 1).trans rfl
            have hcz16_2 : w4.cell? ⟨gb153, 2, none⟩ = some (.bool a0_2) := (blk_cell BK153.out 2).trans rfl
            have hcz16_3 : w4.cell? ⟨gb153, 3, none⟩ = some (.int .i64 a0_3) := (blk_cell BK153.out 3).trans rfl
            have hcz16_4 : w4.cell? ⟨gb153, 4, none⟩ = some (.int .i64 a0_4) := (blk_cell BK153.out 4).trans rfl
            have hcz16_5 : w4.cell? ⟨gb153, 5, none⟩ = some (.slice A0_5 l0_5.length c0_5) := (blk_cell BK153.out 5).trans rfl
            have hcz16_6 : w4.cell? ⟨gb153, 6, none⟩ = some (.slice A0_6 l0_6.length c0_6) := (blk_cell BK153.out 6).trans rfl
            have hcz16_7 : w4.cell? ⟨gb153, 7, none⟩ = some (.int .i64 a0_7) := (blk_cell BK153.out 7).trans rfl
            have hcz16_8 : w4.cell? ⟨gb153, 8, none⟩ = some (.bool a0_8) := (blk_cell BK153.out 8).trans rfl
            have hcz16_9 : w4.cell? ⟨gb153, 9, none⟩ = some (.bool a0_9) := (blk_cell BK153.out 9).trans rfl
            have hcz16_10 : w4.cell? ⟨gb153, 10, none⟩ = some (.bool a0_10) := (blk_cell BK153.out 10).trans rfl
            have hcz16_11 : w4.cell? ⟨gb153, 11, none⟩ = some (.int .i64 a0_11) := (blk_cell BK153.out 11).trans rfl
            have hcz16_12 : w4.cell? ⟨gb153, 12, none⟩ = some (.int .i64 a0_12) := (blk_cell BK153.out 12).trans rfl
            have hcz16_13 : w4.cell? ⟨gb153, 13, none⟩ = some (.int .i64 a0_13) := (blk_cell BK153.out 13).trans rfl
            have hcz16_14 : w4.cell? ⟨gb153, 14, none⟩ = some (.int .i64 a0_14) := (blk_cell BK153.out 14).trans rfl
            have hcz16_15 : w4.cell? ⟨gb153, 15, none⟩ = some (.string a0_15) := (blk_cell BK153.out 15).trans rfl
            have hcz16_16 : w4.cell? ⟨gb153, 16, none⟩ = some (.int .i64 a0_16) := (blk_cell BK153.out 16).trans rfl
            have hcz16_17 : w4.cell? ⟨gb153, 17, none⟩ = some (.int .i64 a0_17) := (blk_cell BK153.out 17).trans rfl
            have hcz16_18 : w4.cell? ⟨gb153, 18, none⟩ = some (.string a0_18) := (blk_cell BK153.out 18).trans rfl
            have hfz16_0 := blk_frozen BK153.out
            have hfz16_1 := blk_frozen BK153.out 1
            have hfz16_2 := blk_frozen BK153.out 2
            have hfz16_3 := blk_frozen BK153.out 3
            have hfz16_4 := blk_frozen BK153.out 4
            have hfz16_5 := blk_frozen BK153.out 5
            have hfz16_6 := blk_frozen BK153.out 6
            have hfz16_7 := blk_frozen BK153.out 7
            have hfz16_8 := blk_frozen BK153.out 8
            have hfz16_9 := blk_frozen BK153.out 9
            have hfz16_10 := blk_frozen BK153.out 10
            have hfz16_11 := blk_frozen BK153.out 11
            have hfz16_12 := blk_frozen BK153.out 12
            have hfz16_13 := blk_frozen BK153.out 13
            have hfz16_14 := blk_frozen BK153.out 14
            have hfz16_15 := blk_frozen BK153.out 15
            have hfz16_16 := blk_frozen BK153.out 16
            have hfz16_17 := blk_frozen BK153.out 17
            have hfz16_18 := blk_frozen BK153.out 18
            go_wp2_with (first | ((with_reducible refine gate_load (t := 41) rfl ?_); refine load_all (g := gb153) (ty := 41) rfl rfl rfl (bx BK153.out) (by kernel_rfl) (by kernel_rfl) ?_; simp only [Act.put, List.setIfInBounds_toArray, List.set_cons_zero, List.set_cons_succ]) | ((with_reducible refine gate_callee (f := 113) rfl ?_); refine goesL_ (some 68) rfl rfl Try.func113 (by kernel_rfl) rfl #[.agg #[.int .i64 a0_3, .int .i64 a0_4, .slice A0_5 l0_5.length c0_5, .slice A0_6 l0_6.length c0_6]] rfl (by (try simp only [List.map_toArray, List.map_cons, List.map_nil]); first | done | rfl | (simp only [List.length_drop, List.length_take]; rfl)) ?_; (with_reducible refine (spec_SeqOk.calls k a0_3 a0_4 _ _ l0_5 _ _ l0_6 true _ ?side1 ?side2 ?side3 ?side4 A6.out).mono ?_); (case side1 => repeat (first | exact (Kd.C_below HR0_5.out HB.out) | (with_reducible refine Kd.C_alloc ?_ _) | (with_reducible refine Kd.C_drewN ?_ _) | (with_reducible refine Kd.C_drew ?_))); (case side2 => exact HC0_5.out); (case side3 => repeat (first | exact (Kd.C_below HR0_6.out HB.out) | (with_reducible refine Kd.C_alloc ?_ _) | (with_reducible refine Kd.C_drewN ?_ _) | (with_reducible refine Kd.C_drew ?_))); (case side4 => exact HC0_6.out); rintro e w17 ⟨rfl, hb⟩; refine ⟨_, rfl, ?_⟩; have n0_ := Aside0.mk (blk_below (bx BK153.out) hb); have n1_ := bs HB hb; clear BK153; clear HB; have BK153 := n0_; have HB := n1_; clear n0_ n1_; (try clear hb); (try clear hb2); (try clear hk); (try clear hi); have hcz18_0 : ∀ i, w17.cell? ⟨gb153, i, none⟩ = _ := blk_cell BK153.out; have hfz18_0 := blk_frozen BK153.out) | (go_at_call 84; (with_reducible refine (spec_ParOk.calls a0_7 a0_8 a0_9 a0_10 false _ A9.out).mono ?_); rintro e w19 ⟨rfl, hb⟩; have n0_ := Aside0.mk (blk_below (bx BK153.out) hb); have n1_ := bs HB hb; clear BK153; clear HB; have BK153 := n0_; have HB := n1_; clear n0_ n1_; (try clear hb); (try clear hb2); (try clear hk); (try clear hi)))
            go_meet
            case rel => exact ⟨_, (true), (by first | rfl | (simp; done) | (simp [*]; done)), H', ⟨by first | omega | exact Nat.le_refl _⟩, ⟨by (with_reducible repeat (first | refine blk_drewN ?_ _ | refine blk_drew ?_ | refine blk_alloc ?_ _)); exact BK153.out⟩, ⟨bl⟩⟩
        · replace c8 := Bool.eq_false_iff.mpr c8
          subst c8
          have H1 : (spec_DecOk.j0 k (!(a0_7 == 0) || (a0_8 || (a0_9 || (a0_10)))) true false a0_2 a0_3 a0_4 l0_5 l0_6 a0_7 a0_8 a0_9 a0_10 a0_11 a0_12 a0_13 a0_14 a0_15 a0_16 a0_17 a0_18) = some r := by rw [if_neg (show ¬ (false = true) by decide)] at H; exact H
          clear H
          have H := H1
          clear H1
          have H' := Aside0.mk H
          clear H
          have hcz20_0 : ∀ i, w4.cell? ⟨gb153, i, none⟩ = _ := blk_cell BK153.out
          have hcz20_1 : w4.cell? ⟨gb153, 1, none⟩ = some (.bool false) := (blk_cell BK153.out 1).trans rfl
          have hcz20_2 : w4.cell? ⟨gb153, 2, none⟩ = some (.bool a0_2) := (blk_cell BK153.out 2).trans rfl
          have hcz20_3 : w4.cell? ⟨gb153, 3, none⟩ = some (.int .i64 a0_3) := (blk_cell BK153.out 3).trans rfl
          have hcz20_4 : w4.cell? ⟨gb153, 4, none⟩ = some (.int .i64 a0_4) := (blk_cell BK153.out 4).trans rfl
          have hcz20_5 : w4.cell? ⟨gb153, 5, none⟩ = some (.slice A0_5 l0_5.length c0_5) := (blk_cell BK153.out 5).trans rfl
          have hcz20_6 : w4.cell? ⟨gb153, 6, none⟩ = some (.slice A0_6 l0_6.length c0_6) := (blk_cell BK153.out 6).trans rfl
          have hcz20_7 : w4.cell? ⟨gb153, 7, none⟩ = some (.int .i64 a0_7) := (blk_cell BK153.out 7).trans rfl
          have hcz20_8 : w4.cell? ⟨gb153, 8, none⟩ = some (.bool a0_8) := (blk_cell BK153.out 8).trans rfl
          have hcz20_9 : w4.cell? ⟨gb153, 9, none⟩ = some (.bool a0_9) := (blk_cell BK153.out 9).trans rfl
          have hcz20_10 : w4.cell? ⟨gb153, 10, none⟩ = some (.bool a0_10) := (blk_cell BK153.out 10).trans rfl
          have hcz20_11 : w4.cell? ⟨gb153, 11, none⟩ = some (.int .i64 a0_11) := (blk_cell BK153.out 11).trans rfl
          have hcz20_12 : w4.cell? ⟨gb153, 12, none⟩ = some (.int .i64 a0_12) := (blk_cell BK153.out 12).trans rfl
          have hcz20_13 : w4.cell? ⟨gb153, 13, none⟩ = some (.int .i64 a0_13) := (blk_cell BK153.out 13).trans rfl
          have hcz20_14 : w4.cell? ⟨gb153, 14, none⟩ = some (.int .i64 a0_14) := (blk_cell BK153.out 14).trans rfl
          have hcz20_15 : w4.cell? ⟨gb153, 15, none⟩ = some (.string a0_15) := (blk_cell BK153.out 15).trans rfl
          have hcz20_16 : w4.cell? ⟨gb153, 16, none⟩ = some (.int .i64 a0_16) := (blk_cell BK153.out 16).trans rfl
          have hcz20_17 : w4.cell? ⟨gb153, 17, none⟩ = some (.int .i64 a0_17) := (blk_cell BK153.out 17).trans rfl
          have hcz20_18 : w4.cell? ⟨gb153, 18, none⟩ = some (.string a0_18) := (blk_cell BK153.out 18).trans rfl
          have hfz20_0 := blk_frozen BK153.out
          have hfz20_1 := blk_frozen BK153.out 1
          have hfz20_2 := blk_frozen BK153.out 2
          have hfz20_3 := blk_frozen BK153.out 3
          have hfz20_4 := blk_frozen BK153.out 4
          have hfz20_5 := blk_frozen BK153.out 5
          have hfz20_6 := blk_frozen BK153.out 6
          have hfz20_7 := blk_frozen BK153.out 7
          have hfz20_8 := blk_frozen BK153.out 8
          have hfz20_9 := blk_frozen BK153.out 9
          have hfz20_10 := blk_frozen BK153.out 10
          have hfz20_11 := blk_frozen BK153.out 11
          have hfz20_12 := blk_frozen BK153.out 12
          have hfz20_13 := blk_frozen BK153.out 13
          have hfz20_14 := blk_frozen BK153.out 14
          have hfz20_15 := blk_frozen BK153.out 15
          have hfz20_16 := blk_frozen BK153.out 16
          have hfz20_17 := blk_frozen BK153.out 17
          have hfz20_18 := blk_frozen BK153.out 18
          go_wp2_with (first | ((with_reducible refine gate_load (t := 41) rfl ?_); refine load_all (g := gb153) (ty := 41) rfl rfl rfl (bx BK153.out) (by kernel_rfl) (by kernel_rfl) ?_; simp only [Act.put, List.setIfInBounds_toArray, List.set_cons_zero, List.set_cons_succ]) | ((with_reducible refine gate_callee (f := 113) rfl ?_); refine goesL_ (some 68) rfl rfl Try.func113 (by kernel_rfl) rfl #[.agg #[.int .i64 a0_3, .int .i64 a0_4, .slice A0_5 l0_5.length c0_5, .slice A0_6 l0_6.length c0_6]] rfl (by (try simp only [List.map_toArray, List.map_cons, List.map_nil]); first | done | rfl | (simp only [List.length_drop, List.length_take]; rfl)) ?_; (with_reducible refine (spec_SeqOk.calls k a0_3 a0_4 _ _ l0_5 _ _ l0_6 true _ ?side1 ?side2 ?side3 ?side4 A6.out).mono ?_); (case side1 => repeat (first | exact (Kd.C_below HR0_5.out HB.out) | (with_reducible refine Kd.C_alloc ?_ _) | (with_reducible refine Kd.C_drewN ?_ _) | (with_reducible refine Kd.C_drew ?_))); (case side2 => exact HC0_5.out); (case side3 => repeat (first | exact (Kd.C_below HR0_6.out HB.out) | (with_reducible refine Kd.C_alloc ?_ _) | (with_reducible refine Kd.C_drewN ?_ _) | (with_reducible refine Kd.C_drew ?_))); (case side4 => exact HC0_6.out); rintro e w21 ⟨rfl, hb⟩; refine ⟨_, rfl, ?_⟩; have n0_ := Aside0.mk (blk_below (bx BK153.out) hb); have n1_ := bs HB hb; clear BK153; clear HB; have BK153 := n0_; have HB := n1_; clear n0_ n1_; (try clear hb); (try clear hb2); (try clear hk); (try clear hi); have hcz22_0 : ∀ i, w21.cell? ⟨gb153, i, none⟩ = _ := blk_cell BK153.out; have hfz22_0 := blk_frozen BK153.out))
          go_meet
          case rel => exact ⟨_, ((!(a0_7 == 0) || (a0_8 || (a0_9 || (a0_10))))), (by first | rfl | (simp; done) | (simp [*]; done)), H', ⟨by first | omega | exact Nat.le_refl _⟩, ⟨by (with_reducible repeat (first | refine blk_drewN ?_ _ | refine blk_drew ?_ | refine blk_alloc ?_ _)); exact BK153.out⟩, ⟨bl⟩⟩
      · replace c7 := Bool.eq_false_iff.mpr c7
        subst c7
        have H1 : (spec_DecOk.j0 k true true a0_1 a0_2 a0_3 a0_4 l0_5 l0_6 a0_7 a0_8 a0_9 a0_10 a0_11 a0_12 a0_13 a0_14 a0_15 a0_16 a0_17 a0_18) = some r := by rw [if_neg (show ¬ (false = true) by decide)] at H; exact H
        clear H
        have H := H1
        clear H1
        have H' := Aside0.mk H
        clear H
        have hcz23_0 : ∀ i, w4.cell? ⟨gb153, i, none⟩ = _ := blk_cell BK153.out
        have hcz23_1 : w4.cell? ⟨gb153, 1, none⟩ = some (.bool a0_1) := (blk_cell BK153.out 1).trans rfl
        have hcz23_2 : w4.cell? ⟨gb153, 2, none⟩ = some (.bool a0_2) := (blk_cell BK153.out 2).trans rfl
        have hcz23_3 : w4.cell? ⟨gb153, 3, none⟩ = some (.int .i64 a0_3) := (blk_cell BK153.out 3).trans rfl
        have hcz23_4 : w4.cell? ⟨gb153, 4, none⟩ = some (.int .i64 a0_4) := (blk_cell BK153.out 4).trans rfl
        have hcz23_5 : w4.cell? ⟨gb153, 5, none⟩ = some (.slice A0_5 l0_5.length c0_5) := (blk_cell BK153.out 5).trans rfl
        have hcz23_6 : w4.cell? ⟨gb153, 6, none⟩ = some (.slice A0_6 l0_6.length c0_6) := (blk_cell BK153.out 6).trans rfl
        have hcz23_7 : w4.cell? ⟨gb153, 7, none⟩ = some (.int .i64 a0_7) := (blk_cell BK153.out 7).trans rfl
        have hcz23_8 : w4.cell? ⟨gb153, 8, none⟩ = some (.bool a0_8) := (blk_cell BK153.out 8).trans rfl
        have hcz23_9 : w4.cell? ⟨gb153, 9, none⟩ = some (.bool a0_9) := (blk_cell BK153.out 9).trans rfl
        have hcz23_10 : w4.cell? ⟨gb153, 10, none⟩ = some (.bool a0_10) := (blk_cell BK153.out 10).trans rfl
        have hcz23_11 : w4.cell? ⟨gb153, 11, none⟩ = some (.int .i64 a0_11) := (blk_cell BK153.out 11).trans rfl
        have hcz23_12 : w4.cell? ⟨gb153, 12, none⟩ = some (.int .i64 a0_12) := (blk_cell BK153.out 12).trans rfl
        have hcz23_13 : w4.cell? ⟨gb153, 13, none⟩ = some (.int .i64 a0_13) := (blk_cell BK153.out 13).trans rfl
        have hcz23_14 : w4.cell? ⟨gb153, 14, none⟩ = some (.int .i64 a0_14) := (blk_cell BK153.out 14).trans rfl
        have hcz23_15 : w4.cell? ⟨gb153, 15, none⟩ = some (.string a0_15) := (blk_cell BK153.out 15).trans rfl
        have hcz23_16 : w4.cell? ⟨gb153, 16, none⟩ = some (.int .i64 a0_16) := (blk_cell BK153.out 16).trans rfl
        have hcz23_17 : w4.cell? ⟨gb153, 17, none⟩ = some (.int .i64 a0_17) := (blk_cell BK153.out 17).trans rfl
        have hcz23_18 : w4.cell? ⟨gb153, 18, none⟩ = some (.string a0_18) := (blk_cell BK153.out 18).trans rfl
        have hfz23_0 := blk_frozen BK153.out
        have hfz23_1 := blk_frozen BK153.out 1
        have hfz23_2 := blk_frozen BK153.out 2
        have hfz23_3 := blk_frozen BK153.out 3
        have hfz23_4 := blk_frozen BK153.out 4
        have hfz23_5 := blk_frozen BK153.out 5
        have hfz23_6 := blk_frozen BK153.out 6
        have hfz23_7 := blk_frozen BK153.out 7
        have hfz23_8 := blk_frozen BK153.out 8
        have hfz23_9 := blk_frozen BK153.out 9
        have hfz23_10 := blk_frozen BK153.out 10
        have hfz23_11 := blk_frozen BK153.out 11
        have hfz23_12 := blk_frozen BK153.out 12
        have hfz23_13 := blk_frozen BK153.out 13
        have hfz23_14 := blk_frozen BK153.out 14
        have hfz23_15 := blk_frozen BK153.out 15
        have hfz23_16 := blk_frozen BK153.out 16
        have hfz23_17 := blk_frozen BK153.out 17
        have hfz23_18 := blk_frozen BK153.out 18
        go_wp2_with (first | ((with_reducible refine gate_load (t := 41) rfl ?_); refine load_all (g := gb153) (ty := 41) rfl rfl rfl (bx BK153.out) (by kernel_rfl) (by kernel_rfl) ?_; simp only [Act.put, List.setIfInBounds_toArray, List.set_cons_zero, List.set_cons_succ]) | ((with_reducible refine gate_callee (f := 113) rfl ?_); refine goesL_ (some 68) rfl rfl Try.func113 (by kernel_rfl) rfl #[.agg #[.int .i64 a0_3, .int .i64 a0_4, .slice A0_5 l0_5.length c0_5, .slice A0_6 l0_6.length c0_6]] rfl (by (try simp only [List.map_toArray, List.map_cons, List.map_nil]); first | done | rfl | (simp only [List.length_drop, List.length_take]; rfl)) ?_; (with_reducible refine (spec_SeqOk.calls k a0_3 a0_4 _ _ l0_5 _ _ l0_6 false _ ?side1 ?side2 ?side3 ?side4 A6.out).mono ?_); (case side1 => repeat (first | exact (Kd.C_below HR0_5.out HB.out) | (with_reducible refine Kd.C_alloc ?_ _) | (with_reducible refine Kd.C_drewN ?_ _) | (with_reducible refine Kd.C_drew ?_))); (case side2 => exact HC0_5.out); (case side3 => repeat (first | exact (Kd.C_below HR0_6.out HB.out) | (with_reducible refine Kd.C_alloc ?_ _) | (with_reducible refine Kd.C_drewN ?_ _) | (with_reducible refine Kd.C_drew ?_))); (case side4 => exact HC0_6.out); rintro e w24 ⟨rfl, hb⟩; refine ⟨_, rfl, ?_⟩; have n0_ := Aside0.mk (blk_below (bx BK153.out) hb); have n1_ := bs HB hb; clear BK153; clear HB; have BK153 := n0_; have HB := n1_; clear n0_ n1_; (try clear hb); (try clear hb2); (try clear hk); (try clear hi)))
        go_meet
        case rel => exact ⟨_, (true), (by first | rfl | (simp; done) | (simp [*]; done)), H', ⟨by first | omega | exact Nat.le_refl _⟩, ⟨by (with_reducible repeat (first | refine blk_drewN ?_ _ | refine blk_drew ?_ | refine blk_alloc ?_ _)); exact BK153.out⟩, ⟨bl⟩⟩
    case rest =>
      clear HC3
      (try clear c1); (try clear c2); (try clear p2); (try clear c4); (try clear c7); (try clear c8); (try clear c10); (try clear c11); (try clear hcz11_0); (try clear hcz11_1); (try clear hcz11_10); (try clear hcz11_11); (try clear hcz11_12); (try clear hcz11_13); (try clear hcz11_14); (try clear hcz11_15); (try clear hcz11_16); (try clear hcz11_17); (try clear hcz11_18); (try clear hcz11_2); (try clear hcz11_3); (try clear hcz11_4); (try clear hcz11_5); (try clear hcz11_6); (try clear hcz11_7); (try clear hcz11_8); (try clear hcz11_9); (try clear hcz13_0); (try clear hcz13_1); (try clear hcz13_10); (try clear hcz13_11); (try clear hcz13_12); (try clear hcz13_13); (try clear hcz13_14); (try clear hcz13_15); (try clear hcz13_16); (try clear hcz13_17); (try clear hcz13_18); (try clear hcz13_2); (try clear hcz13_3); (try clear hcz13_4); (try clear hcz13_5); (try clear hcz13_6); (try clear hcz13_7); (try clear hcz13_8); (try clear hcz13_9); (try clear hcz15_0); (try clear hcz15_1); (try clear hcz15_10); (try clear hcz15_11); (try clear hcz15_12); (try clear hcz15_13); (try clear hcz15_14); (try clear hcz15_15); (try clear hcz15_16); (try clear hcz15_17); (try clear hcz15_18); (try clear hcz15_2); (try clear hcz15_3); (try clear hcz15_4); (try clear hcz15_5); (try clear hcz15_6); (try clear hcz15_7); (try clear hcz15_8); (try clear hcz15_9); (try clear hcz16_0); (try clear hcz16_1); (try clear hcz16_10); (try clear hcz16_11); (try clear hcz16_12); (try clear hcz16_13); (try clear hcz16_14); (try clear hcz16_15); (try clear hcz16_16); (try clear hcz16_17); (try clear hcz16_18); (try clear hcz16_2); (try clear hcz16_3); (try clear hcz16_4); (try clear hcz16_5); (try clear hcz16_6); (try clear hcz16_7); (try clear hcz16_8); (try clear hcz16_9); (try clear hcz18_0); (try clear hcz18_1); (try clear hcz18_10); (try clear hcz18_11); (try clear hcz18_12); (try clear hcz18_13); (try clear hcz18_14); (try clear hcz18_15); (try clear hcz18_16); (try clear hcz18_17); (try clear hcz18_18); (try clear hcz18_2); (try clear hcz18_3); (try clear hcz18_4); (try clear hcz18_5); (try clear hcz18_6); (try clear hcz18_7); (try clear hcz18_8); (try clear hcz18_9); (try clear hcz20_0); (try clear hcz20_1); (try clear hcz20_10); (try clear hcz20_11); (try clear hcz20_12); (try clear hcz20_13); (try clear hcz20_14); (try clear hcz20_15); (try clear hcz20_16); (try clear hcz20_17); (try clear hcz20_18); (try clear hcz20_2); (try clear hcz20_3); (try clear hcz20_4); (try clear hcz20_5); (try clear hcz20_6); (try clear hcz20_7); (try clear hcz20_8); (try clear hcz20_9); (try clear hcz22_0); (try clear hcz22_1); (try clear hcz22_10); (try clear hcz22_11); (try clear hcz22_12); (try clear hcz22_13); (try clear hcz22_14); (try clear hcz22_15); (try clear hcz22_16); (try clear hcz22_17); (try clear hcz22_18); (try clear hcz22_2); (try clear hcz22_3); (try clear hcz22_4); (try clear hcz22_5); (try clear hcz22_6); (try clear hcz22_7); (try clear hcz22_8); (try clear hcz22_9); (try clear hcz23_0); (try clear hcz23_1); (try clear hcz23_10); (try clear hcz23_11); (try clear hcz23_12); (try clear hcz23_13); (try clear hcz23_14); (try clear hcz23_15); (try clear hcz23_16); (try clear hcz23_17); (try clear hcz23_18); (try clear hcz23_2); (try clear hcz23_3); (try clear hcz23_4); (try clear hcz23_5); (try clear hcz23_6); (try clear hcz23_7); (try clear hcz23_8); (try clear hcz23_9); (try clear hcz5_0); (try clear hcz5_1); (try clear hcz5_10); (try clear hcz5_11); (try clear hcz5_12); (try clear hcz5_13); (try clear hcz5_14); (try clear hcz5_15); (try clear hcz5_16); (try clear hcz5_17); (try clear hcz5_18); (try clear hcz5_2); (try clear hcz5_3); (try clear hcz5_4); (try clear hcz5_5); (try clear hcz5_6); (try clear hcz5_7); (try clear hcz5_8); (try clear hcz5_9); (try clear hfz11_0); (try clear hfz11_1); (try clear hfz11_10); (try clear hfz11_11); (try clear hfz11_12); (try clear hfz11_13); (try clear hfz11_14); (try clear hfz11_15); (try clear hfz11_16); (try clear hfz11_17); (try clear hfz11_18); (try clear hfz11_2); (try clear hfz11_3); (try clear hfz11_4); (try clear hfz11_5); (try clear hfz11_6); (try clear hfz11_7); (try clear hfz11_8); (try clear hfz11_9); (try clear hfz13_0); (try clear hfz13_1); (try clear hfz13_10); (try clear hfz13_11); (try clear hfz13_12); (try clear hfz13_13); (try clear hfz13_14); (try clear hfz13_15); (try clear hfz13_16); (try clear hfz13_17); (try clear hfz13_18); (try clear hfz13_2); (try clear hfz13_3); (try clear hfz13_4); (try clear hfz13_5); (try clear hfz13_6); (try clear hfz13_7); (try clear hfz13_8); (try clear hfz13_9); (try clear hfz15_0); (try clear hfz15_1); (try clear hfz15_10); (try clear hfz15_11); (try clear hfz15_12); (try clear hfz15_13); (try clear hfz15_14); (try clear hfz15_15); (try clear hfz15_16); (try clear hfz15_17); (try clear hfz15_18); (try clear hfz15_2); (try clear hfz15_3); (try clear hfz15_4); (try clear hfz15_5); (try clear hfz15_6); (try clear hfz15_7); (try clear hfz15_8); (try clear hfz15_9); (try clear hfz16_0); (try clear hfz16_1); (try clear hfz16_10); (try clear hfz16_11); (try clear hfz16_12); (try clear hfz16_13); (try clear hfz16_14); (try clear hfz16_15); (try clear hfz16_16); (try clear hfz16_17); (try clear hfz16_18); (try clear hfz16_2); (try clear hfz16_3); (try clear hfz16_4); (try clear hfz16_5); (try clear hfz16_6); (try clear hfz16_7); (try clear hfz16_8); (try clear hfz16_9); (try clear hfz18_0); (try clear hfz18_1); (try clear hfz18_10); (try clear hfz18_11); (try clear hfz18_12); (try clear hfz18_13); (try clear hfz18_14); (try clear hfz18_15); (try clear hfz18_16); (try clear hfz18_17); (try clear hfz18_18); (try clear hfz18_2); (try clear hfz18_3); (try clear hfz18_4); (try clear hfz18_5); (try clear hfz18_6); (try clear hfz18_7); (try clear hfz18_8); (try clear hfz18_9); (try clear hfz20_0); (try clear hfz20_1); (try clear hfz20_10); (try clear hfz20_11); (try clear hfz20_12); (try clear hfz20_13); (try clear hfz20_14); (try clear hfz20_15); (try clear hfz20_16); (try clear hfz20_17); (try clear hfz20_18); (try clear hfz20_2); (try clear hfz20_3); (try clear hfz20_4); (try clear hfz20_5); (try clear hfz20_6); (try clear hfz20_7); (try clear hfz20_8); (try clear hfz20_9); (try clear hfz22_0); (try clear hfz22_1); (try clear hfz22_10); (try clear hfz22_11); (try clear hfz22_12); (try clear hfz22_13); (try clear hfz22_14); (try clear hfz22_15); (try clear hfz22_16); (try clear hfz22_17); (try clear hfz22_18); (try clear hfz22_2); (try clear hfz22_3); (try clear hfz22_4); (try clear hfz22_5); (try clear hfz22_6); (try clear hfz22_7); (try clear hfz22_8); (try clear hfz22_9); (try clear hfz23_0); (try clear hfz23_1); (try clear hfz23_10); (try clear hfz23_11); (try clear hfz23_12); (try clear hfz23_13); (try clear hfz23_14); (try clear hfz23_15); (try clear hfz23_16); (try clear hfz23_17); (try clear hfz23_18); (try clear hfz23_2); (try clear hfz23_3); (try clear hfz23_4); (try clear hfz23_5); (try clear hfz23_6); (try clear hfz23_7); (try clear hfz23_8); (try clear hfz23_9); (try clear hfz5_0); (try clear hfz5_1); (try clear hfz5_10); (try clear hfz5_11); (try clear hfz5_12); (try clear hfz5_13); (try clear hfz5_14); (try clear hfz5_15); (try clear hfz5_16); (try clear hfz5_17); (try clear hfz5_18); (try clear hfz5_2); (try clear hfz5_3); (try clear hfz5_4); (try clear hfz5_5); (try clear hfz5_6); (try clear hfz5_7); (try clear hfz5_8); (try clear hfz5_9)
      obtain ⟨kq, x90_2, rfl, HA, HJ2, BK153, HB⟩ := hcut
      cases kq with
      | zero => exact absurd HA.out (by simp [spec_DecOk.j0])
      | succ kj2 =>
        have H := HA.out
        clear HA
        simp only [spec_DecOk.j0] at H
        by_cases c25 : x90_2 = true
        · subst c25
          rw [if_pos rfl] at H
          obtain rfl := Option.some.inj H
          go_wp2
          go_ret
          exact ⟨rr, bl⟩
        · replace c25 := Bool.eq_false_iff.mpr c25
          subst c25
          have H1 : (if a0_11 < (-1) then (spec_DecOk.j1 kj2 true true a0_1 a0_2 a0_3 a0_4 l0_5 l0_6 a0_7 a0_8 a0_9 a0_10 a0_11 a0_12 a0_13 a0_14 a0_15 a0_16 a0_17 a0_18) else (if 0 ≤ (IntKind.u64.wrap (a0_4)) then (if a0_11 ≥ (shl .i64 1 (IntKind.u64.wrap (a0_4))) then (spec_DecOk.j1 kj2 true true a0_1 a0_2 a0_3 a0_4 l0_5 l0_6 a0_7 a0_8 a0_9 a0_10 a0_11 a0_12 a0_13 a0_14 a0_15 a0_16 a0_17 a0_18) else (if a0_12 < 0 then (spec_DecOk.j1 kj2 true true a0_1 a0_2 a0_3 a0_4 l0_5 l0_6 a0_7 a0_8 a0_9 a0_10 a0_11 a0_12 a0_13 a0_14 a0_15 a0_16 a0_17 a0_18) else ((spec_TilesOf.f kj2 a0_3 a0_4 l0_5 l0_6).bind fun t158 => (if a0_12 ≥ t158 then (spec_DecOk.j1 kj2 true true a0_1 a0_2 a0_3 a0_4 l0_5 l0_6 a0_7 a0_8 a0_9 a0_10 a0_11 a0_12 a0_13 a0_14 a0_15 a0_16 a0_17 a0_18) else (if a0_1 = true then (spec_DecOk.j1 kj2 false true a0_1 a0_2 a0_3 a0_4 l0_5 l0_6 a0_7 a0_8 a0_9 a0_10 a0_11 a0_12 a0_13 a0_14 a0_15 a0_16 a0_17 a0_18) else (if a0_12 > 0 then (spec_DecOk.j1 kj2 true true a0_1 a0_2 a0_3 a0_4 l0_5 l0_6 a0_7 a0_8 a0_9 a0_10 a0_11 a0_12 a0_13 a0_14 a0_15 a0_16 a0_17 a0_18) else (spec_DecOk.j1 kj2 a0_2 true a0_1 a0_2 a0_3 a0_4 l0_5 l0_6 a0_7 a0_8 a0_9 a0_10 a0_11 a0_12 a0_13 a0_14 a0_15 a0_16 a0_17 a0_18))))))) else (none))) = some r := by rw [if_neg (show ¬ (false = true) by decide)] at H; exact H
          clear H
          have H := H1
          clear H1
          have HC26 := Aside0.mk H
          clear H
          go_upto_region 5 with (fail)
          go_cut [130] (fun v130 wc => ∃ (kq : Nat) (x130_25 : Bool), v130 = .bool x130_25 ∧ Aside0 (spec_DecOk.j1 kq x130_25 true a0_1 a0_2 a0_3 a0_4 l0_5 l0_6 a0_7 a0_8 a0_9 a0_10 a0_11 a0_12 a0_13 a0_14 a0_15 a0_16 a0_17 a0_18 = some r) ∧ Aside0 (kq ≤ kj2) ∧ Aside0 (wc.heap[gb153]? = some (.cells #[.bool true, .bool a0_1, .bool a0_2, .int .i64 a0_3, .int .i64 a0_4, (.slice A0_5 l0_5.length c0_5), (.slice A0_6 l0_6.length c0_6), .int .i64 a0_7, .bool a0_8, .bool a0_9, .bool a0_10, .int .i64 a0_11, .int .i64 a0_12, .int .i64 a0_13, .int .i64 a0_14, .string a0_15, .int .i64 a0_16, .int .i64 a0_17, .string a0_18] 41 (0, 0))) ∧ Aside0 (Below w.heap.size w wc))
          case first =>
            have H := HC26.out
            clear HC26
            by_cases c27 : a0_11 < (-1)
            · rw [if_pos c27] at H
              have c27b0 : decide (a0_11 < (-1)) = true := decide_eq_true c27
              clear c27
              (first | rw [c27b0] | (simp only [i64_w, i32_w]; rw [c27b0]) | skip)
              have H' := Aside0.mk H
              clear H
              as_aux_lemma =>
              try go_wp2
              have n0_ := Aside0.mk (blk_drew BK153.out)
              have n1_ := Aside0.mk (below_drew1 HB.out)
              clear BK153
              clear HB
              have BK153 := n0_
              have HB := n1_
              clear n0_ n1_
              refine start_ (n := 40) (S := fun w' => w'.heap[gb153]? = some (.cells #[.bool true, .bool a0_1, .bool a0_2, .int .i64 a0_3, .int .i64 a0_4, .slice A0_5 l0_5.length c0_5, .slice A0_6 l0_6.length c0_6, .int .i64 a0_7, .bool a0_8, .bool a0_9, .bool a0_10, .int .i64 a0_11, .int .i64 a0_12, .int .i64 a0_13, .int .i64 a0_14, .string a0_15, .int .i64 a0_16, .int .i64 a0_17, .string a0_18] 41 (0, 0))) (ds := []) (tf 0 40) (by kernel_rfl) rfl rfl BK153.out (fun hHeld => ?_); refine with_tabW spec_DecOk.tab5 spec_DecOk.bits5 (fun HT_ HW_ => ?_)
              generalize wc.drew = w28 at BK153 HB hHeld ⊢
              refine pure_ (i := 0) (N := some 91) (v := ?_) (a' := ?_) (tf 1 39) rfl rfl (any_of HT_.out (by kernel_rfl)) (fun _ _ _ h => h) (Or.inl ⟨by rfl, ?_⟩) ?_ ?_
              rotate_left
              · intro w'
                go_simp
                with_reducible rfl
              rotate_left; (· (simp only [Act.put, List.setIfInBounds_toArray, List.set_cons_zero, List.set_cons_succ, i64_w, i32_w]; rfl))
              refine take_ (i := 1) (N := some 92) (v := ?_) (a' := ?_) (tf 2 38) rfl rfl (take_ofW HT_.out HW_.out (by kernel_rfl)) (fun _ _ _ h => h) (Or.inl ⟨by rfl, ?_⟩) hHeld ?_ ?_
              rotate_left
              · intro w' z153_
                have hcz153_ : ∀ i, w'.cell? ⟨gb153, i, none⟩ = _ := blk_cell z153_
                have hfz153_ := blk_frozen z153_
                first | (refine Eq.trans (load_here (g := gb153) (ty := 41) rfl rfl z153_ (by kernel_rfl) (by kernel_rfl)) ?_; with_reducible rfl) | (go_simp; with_reducible rfl)
              rotate_left; (· (simp only [Act.put, List.setIfInBounds_toArray, List.set_cons_zero, List.set_cons_succ, i64_w, i32_w]; rfl))
              refine pure_ (i := 2) (N := some 93) (v := ?_) (a' := ?_) (tf 3 37) rfl rfl (any_of HT_.out (by kernel_rfl)) (fun _ _ _ h => h) (Or.inl ⟨by rfl, ?_⟩) ?_ ?_
              rotate_left
              · intro w'
                go_simp
                with_reducible rfl
              rotate_left; (· (simp only [Act.put, List.setIfInBounds_toArray, List.set_cons_zero, List.set_cons_succ, i64_w, i32_w]; rfl))
              refine pure_ (i := 3) (N := some 94) (v := ?_) (a' := ?_) (tf 4 36) rfl rfl (any_of HT_.out (by kernel_rfl)) (fun _ _ _ h => h) (Or.inl ⟨by rfl, ?_⟩) ?_ ?_
              rotate_left
              · intro w'
                go_simp
                with_reducible rfl
              rotate_left; (· (simp only [Act.put, List.setIfInBounds_toArray, List.set_cons_zero, List.set_cons_succ, i64_w, i32_w]; rfl))
              refine pure_ (i := 4) (N := some 95) (v := undef) (a' := ?_) (tf 5 35) rfl rfl (any_of HT_.out (by kernel_rfl)) (fun _ _ _ h => h) (Or.inr ⟨by rfl, rfl⟩) ?_ ?_
              rotate_left; (· (simp only [Act.put, List.setIfInBounds_toArray, List.set_cons_zero, List.set_cons_succ, i64_w, i32_w]; rfl))
              refine pure_ (i := 5) (N := some 96) (v := undef) (a' := ?_) (tf 6 34) rfl rfl (any_of HT_.out (by kernel_rfl)) (fun _ _ _ h => h) (Or.inr ⟨by rfl, rfl⟩) ?_ ?_
              rotate_left; (· (simp only [Act.put, List.setIfInBounds_toArray, List.set_cons_zero, List.set_cons_succ, i64_w, i32_w]; rfl))
              refine pure_ (i := 6) (N := some 97) (v := undef) (a' := ?_) (tf 7 33) rfl rfl (any_of HT_.out (by kernel_rfl)) (fun _ _ _ h => h) (Or.inr ⟨by rfl, rfl⟩) ?_ ?_
              rotate_left; (· (simp only [Act.put, List.setIfInBounds_toArray, List.set_cons_zero, List.set_cons_succ, i64_w, i32_w]; rfl))
              refine pure_ (i := 7) (N := some 98) (v := undef) (a' := ?_) (tf 8 32) rfl rfl (any_of HT_.out (by kernel_rfl)) (fun _ _ _ h => h) (Or.inr ⟨by rfl, rfl⟩) ?_ ?_
              rotate_left; (· (simp only [Act.put, List.setIfInBounds_toArray, List.set_cons_zero, List.set_cons_succ, i64_w, i32_w]; rfl))
              refine pure_ (i := 8) (N := some 99) (v := undef) (a' := ?_) (tf 9 31) rfl rfl (any_of HT_.out (by kernel_rfl)) (fun _ _ _ h => h) (Or.inr ⟨by rfl, rfl⟩) ?_ ?_
              rotate_left; (· (simp only [Act.put, List.setIfInBounds_toArray, List.set_cons_zero, List.set_cons_succ, i64_w, i32_w]; rfl))
              refine pure_ (i := 9) (N := some 100) (v := undef) (a' := ?_) (tf 10 30) rfl rfl (any_of HT_.out (by kernel_rfl)) (fun _ _ _ h => h) (Or.inr ⟨by rfl, rfl⟩) ?_ ?_
              rotate_left; (· (simp only [Act.put, List.setIfInBounds_toArray, List.set_cons_zero, List.set_cons_succ, i64_w, i32_w]; rfl))
              refine pure_ (i := 10) (N := some 101) (v := undef) (a' := ?_) (tf 11 29) rfl rfl (any_of HT_.out (by kernel_rfl)) (fun _ _ _ h => h) (Or.inr ⟨by rfl, rfl⟩) ?_ ?_
              rotate_left; (· (simp only [Act.put, List.setIfInBounds_toArray, List.set_cons_zero, List.set_cons_succ, i64_w, i32_w]; rfl))
              refine pure_ (i := 11) (N := some 102) (v := undef) (a' := ?_) (tf 12 28) rfl rfl (any_of HT_.out (by kernel_rfl)) (fun _ _ _ h => h) (Or.inr ⟨by rfl, rfl⟩) ?_ ?_
              rotate_left; (· (simp only [Act.put, List.setIfInBounds_toArray, List.set_cons_zero, List.set_cons_succ, i64_w, i32_w]; rfl))
              refine pure_ (i := 12) (N := some 103) (v := ?_) (a' := ?_) (tf 13 27) rfl rfl (any_of HT_.out (by kernel_rfl)) (fun _ _ _ h => h) (Or.inl ⟨by rfl, ?_⟩) ?_ ?_
              rotate_left
              · intro w'
                go_simp
                with_reducible rfl
              rotate_left; (· (simp only [Act.put, List.setIfInBounds_toArray, List.set_cons_zero, List.set_cons_succ, i64_w, i32_w]; rfl))
              refine pure_ (i := 13) (N := some 104) (v := ?_) (a' := ?_) (tf 14 26) rfl rfl (any_of HT_.out (by kernel_rfl)) (fun _ _ _ h => h) (Or.inl ⟨by rfl, ?_⟩) ?_ ?_
              rotate_left
              · intro w'
                go_simp
                with_reducible rfl
              rotate_left; (· (simp only [Act.put, List.setIfInBounds_toArray, List.set_cons_zero, List.set_cons_succ, i64_w, i32_w]; rfl))
              refine pure_ (i := 14) (N := some 105) (v := undef) (a' := ?_) (tf 15 25) rfl rfl (any_of HT_.out (by kernel_rfl)) (fun _ _ _ h => h) (Or.inr ⟨by rfl, rfl⟩) ?_ ?_
              rotate_left; (· (simp only [Act.put, List.setIfInBounds_toArray, List.set_cons_zero, List.set_cons_succ, i64_w, i32_w]; rfl))
              refine pure_ (i := 15) (N := some 106) (v := undef) (a' := ?_) (tf 16 24) rfl rfl (any_of HT_.out (by kernel_rfl)) (fun _ _ _ h => h) (Or.inr ⟨by rfl, rfl⟩) ?_ ?_
              rotate_left; (· (simp only [Act.put, List.setIfInBounds_toArray, List.set_cons_zero, List.set_cons_succ, i64_w, i32_w]; rfl))
              refine pure_ (i := 16) (N := some 107) (v := undef) (a' := ?_) (tf 17 23) rfl rfl (any_of HT_.out (by kernel_rfl)) (fun _ _ _ h => h) (Or.inr ⟨by rfl, rfl⟩) ?_ ?_
              rotate_left; (· (simp only [Act.put, List.setIfInBounds_toArray, List.set_cons_zero, List.set_cons_succ, i64_w, i32_w]; rfl))
              refine pure_ (i := 17) (N := some 108) (v := ?_) (a' := ?_) (tf 18 22) rfl rfl (any_of HT_.out (by kernel_rfl)) (fun _ _ _ h => h) (Or.inl ⟨by rfl, ?_⟩) ?_ ?_
              rotate_left
              · intro w'
                go_simp
                with_reducible rfl
              rotate_left; (· (simp only [Act.put, List.setIfInBounds_toArray, List.set_cons_zero, List.set_cons_succ, i64_w, i32_w]; rfl))
              refine pure_ (i := 18) (N := some 109) (v := ?_) (a' := ?_) (tf 19 21) rfl rfl (any_of HT_.out (by kernel_rfl)) (fun _ _ _ h => h) (Or.inl ⟨by rfl, ?_⟩) ?_ ?_
              rotate_left
              · intro w'
                go_simp
                with_reducible rfl
              rotate_left; (· (simp only [Act.put, List.setIfInBounds_toArray, List.set_cons_zero, List.set_cons_succ, i64_w, i32_w]; rfl))
              refine pure_ (i := 19) (N := some 110) (v := undef) (a' := ?_) (tf 20 20) rfl rfl (any_of HT_.out (by kernel_rfl)) (fun _ _ _ h => h) (Or.inr ⟨by rfl, rfl⟩) ?_ ?_
              rotate_left; (· (simp only [Act.put, List.setIfInBounds_toArray, List.set_cons_zero, List.set_cons_succ, i64_w, i32_w]; rfl))
              refine pure_ (i := 20) (N := some 111) (v := undef) (a' := ?_) (tf 21 19) rfl rfl (any_of HT_.out (by kernel_rfl)) (fun _ _ _ h => h) (Or.inr ⟨by rfl, rfl⟩) ?_ ?_
              rotate_left; (· (simp only [Act.put, List.setIfInBounds_toArray, List.set_cons_zero, List.set_cons_succ, i64_w, i32_w]; rfl))
              refine pure_ (i := 21) (N := some 112) (v := undef) (a' := ?_) (tf 22 18) rfl rfl (any_of HT_.out (by kernel_rfl)) (fun _ _ _ h => h) (Or.inr ⟨by rfl, rfl⟩) ?_ ?_
              rotate_left; (· (simp only [Act.put, List.setIfInBounds_toArray, List.set_cons_zero, List.set_cons_succ, i64_w, i32_w]; rfl))
              refine pure_ (i := 22) (N := some 113) (v := undef) (a' := ?_) (tf 23 17) rfl rfl (any_of HT_.out (by kernel_rfl)) (fun _ _ _ h => h) (Or.inr ⟨by rfl, rfl⟩) ?_ ?_
              rotate_left; (· (simp only [Act.put, List.setIfInBounds_toArray, List.set_cons_zero, List.set_cons_succ, i64_w, i32_w]; rfl))
              refine pure_ (i := 23) (N := some 114) (v := undef) (a' := ?_) (tf 24 16) rfl rfl (any_of HT_.out (by kernel_rfl)) (fun _ _ _ h => h) (Or.inr ⟨by rfl, rfl⟩) ?_ ?_
              rotate_left; (· (simp only [Act.put, List.setIfInBounds_toArray, List.set_cons_zero, List.set_cons_succ, i64_w, i32_w]; rfl))
              refine pure_ (i := 24) (N := some 115) (v := undef) (a' := ?_) (tf 25 15) rfl rfl (any_of HT_.out (by kernel_rfl)) (fun _ _ _ h => h) (Or.inr ⟨by rfl, rfl⟩) ?_ ?_
              rotate_left; (· (simp only [Act.put, List.setIfInBounds_toArray, List.set_cons_zero, List.set_cons_succ, i64_w, i32_w]; rfl))
              refine pure_ (i := 25) (N := some 116) (v := ?_) (a' := ?_) (tf 26 14) rfl rfl (any_of HT_.out (by kernel_rfl)) (fun _ _ _ h => h) (Or.inl ⟨by rfl, ?_⟩) ?_ ?_
              rotate_left
              · intro w'
                go_simp
                with_reducible rfl
              rotate_left; (· (simp only [Act.put, List.setIfInBounds_toArray, List.set_cons_zero, List.set_cons_succ, i64_w, i32_w]; rfl))
              refine pure_ (i := 26) (N := some 117) (v := ?_) (a' := ?_) (tf 27 13) rfl rfl (any_of HT_.out (by kernel_rfl)) (fun _ _ _ h => h) (Or.inl ⟨by rfl, ?_⟩) ?_ ?_
              rotate_left
              · intro w'
                go_simp
                with_reducible rfl
              rotate_left; (· (simp only [Act.put, List.setIfInBounds_toArray, List.set_cons_zero, List.set_cons_succ, i64_w, i32_w]; rfl))
              refine pure_ (i := 27) (N := some 118) (v := undef) (a' := ?_) (tf 28 12) rfl rfl (any_of HT_.out (by kernel_rfl)) (fun _ _ _ h => h) (Or.inr ⟨by rfl, rfl⟩) ?_ ?_
              rotate_left; (· (simp only [Act.put, List.setIfInBounds_toArray, List.set_cons_zero, List.set_cons_succ, i64_w, i32_w]; rfl))
              refine pure_ (i := 28) (N := some 119) (v := undef) (a' := ?_) (tf 29 11) rfl rfl (any_of HT_.out (by kernel_rfl)) (fun _ _ _ h => h) (Or.inr ⟨by rfl, rfl⟩) ?_ ?_
              rotate_left; (· (simp only [Act.put, List.setIfInBounds_toArray, List.set_cons_zero, List.set_cons_succ, i64_w, i32_w]; rfl))
              refine pure_ (i := 29) (N := some 120) (v := undef) (a' := ?_) (tf 30 10) rfl rfl (any_of HT_.out (by kernel_rfl)) (fun _ _ _ h => h) (Or.inr ⟨by rfl, rfl⟩) ?_ ?_
              rotate_left; (· (simp only [Act.put, List.setIfInBounds_toArray, List.set_cons_zero, List.set_cons_succ, i64_w, i32_w]; rfl))
              refine pure_ (i := 30) (N := some 121) (v := undef) (a' := ?_) (tf 31 9) rfl rfl (any_of HT_.out (by kernel_rfl)) (fun _ _ _ h => h) (Or.inr ⟨by rfl, rfl⟩) ?_ ?_
              rotate_left; (· (simp only [Act.put, List.setIfInBounds_toArray, List.set_cons_zero, List.set_cons_succ, i64_w, i32_w]; rfl))
              refine pure_ (i := 31) (N := some 122) (v := undef) (a' := ?_) (tf 32 8) rfl rfl (any_of HT_.out (by kernel_rfl)) (fun _ _ _ h => h) (Or.inr ⟨by rfl, rfl⟩) ?_ ?_
              rotate_left; (· (simp only [Act.put, List.setIfInBounds_toArray, List.set_cons_zero, List.set_cons_succ, i64_w, i32_w]; rfl))
              refine pure_ (i := 32) (N := some 123) (v := undef) (a' := ?_) (tf 33 7) rfl rfl (any_of HT_.out (by kernel_rfl)) (fun _ _ _ h => h) (Or.inr ⟨by rfl, rfl⟩) ?_ ?_
              rotate_left; (· (simp only [Act.put, List.setIfInBounds_toArray, List.set_cons_zero, List.set_cons_succ, i64_w, i32_w]; rfl))
              refine pure_ (i := 33) (N := some 124) (v := undef) (a' := ?_) (tf 34 6) rfl rfl (any_of HT_.out (by kernel_rfl)) (fun _ _ _ h => h) (Or.inr ⟨by rfl, rfl⟩) ?_ ?_
              rotate_left; (· (simp only [Act.put, List.setIfInBounds_toArray, List.set_cons_zero, List.set_cons_succ, i64_w, i32_w]; rfl))
              refine pure_ (i := 34) (N := some 125) (v := undef) (a' := ?_) (tf 35 5) rfl rfl (any_of HT_.out (by kernel_rfl)) (fun _ _ _ h => h) (Or.inr ⟨by rfl, rfl⟩) ?_ ?_
              rotate_left; (· (simp only [Act.put, List.setIfInBounds_toArray, List.set_cons_zero, List.set_cons_succ, i64_w, i32_w]; rfl))
              refine pure_ (i := 35) (N := some 126) (v := undef) (a' := ?_) (tf 36 4) rfl rfl (any_of HT_.out (by kernel_rfl)) (fun _ _ _ h => h) (Or.inr ⟨by rfl, rfl⟩) ?_ ?_
              rotate_left; (· (simp only [Act.put, List.setIfInBounds_toArray, List.set_cons_zero, List.set_cons_succ, i64_w, i32_w]; rfl))
              refine pure_ (i := 36) (N := some 127) (v := undef) (a' := ?_) (tf 37 3) rfl rfl (any_of HT_.out (by kernel_rfl)) (fun _ _ _ h => h) (Or.inr ⟨by rfl, rfl⟩) ?_ ?_
              rotate_left; (· (simp only [Act.put, List.setIfInBounds_toArray, List.set_cons_zero, List.set_cons_succ, i64_w, i32_w]; rfl))
              refine pure_ (i := 37) (N := some 128) (v := undef) (a' := ?_) (tf 38 2) rfl rfl (any_of HT_.out (by kernel_rfl)) (fun _ _ _ h => h) (Or.inr ⟨by rfl, rfl⟩) ?_ ?_
              rotate_left; (· (simp only [Act.put, List.setIfInBounds_toArray, List.set_cons_zero, List.set_cons_succ, i64_w, i32_w]; rfl))
              refine pure_ (i := 38) (N := some 129) (v := undef) (a' := ?_) (tf 39 1) rfl rfl (any_of HT_.out (by kernel_rfl)) (fun _ _ _ h => h) (Or.inr ⟨by rfl, rfl⟩) ?_ ?_
              rotate_left; (· (simp only [Act.put, List.setIfInBounds_toArray, List.set_cons_zero, List.set_cons_succ, i64_w, i32_w]; rfl))
              refine pure_ (i := 39) (N := some 130) (v := ?_) (a' := ?_) (tf 40 0) rfl rfl (any_of HT_.out (by kernel_rfl)) (fun _ _ _ h => h) (Or.inl ⟨by rfl, ?_⟩) ?_ ?_
              rotate_left
              · intro w'
                go_simp
                with_reducible rfl
              rotate_left; (· (simp only [Act.put, List.setIfInBounds_toArray, List.set_cons_zero, List.set_cons_succ, i64_w, i32_w]; rfl))
              refine done_ (done_of HT_.out (by kernel_rfl)) ?_
              try go_wp2
              go_meet
              case rel => exact ⟨_, (true), (by first | rfl | (simp; done) | (simp [*]; done)), H', ⟨by have := HJ2.out; first | omega | exact Nat.le_refl _⟩, ⟨by (with_reducible repeat (first | refine blk_drewN ?_ _ | refine blk_drew ?_ | refine blk_alloc ?_ _)); exact BK153.out⟩, ⟨bl⟩⟩
            · rw [if_neg c27] at H
              have c27b0 : decide (a0_11 < (-1)) = false := decide_eq_false c27
              clear c27
              (first | rw [c27b0] | (simp only [i64_w, i32_w]; rw [c27b0]) | skip)
              obtain ⟨ji29, hji29⟩ : ∃ j_ : Int, (IntKind.u64.wrap (a0_4)) = j_ := ⟨_, rfl⟩
              replace H : (if 0 ≤ (ji29) then (if a0_11 ≥ (shl .i64 1 (ji29)) then (spec_DecOk.j1 kj2 true true a0_1 a0_2 a0_3 a0_4 l0_5 l0_6 a0_7 a0_8 a0_9 a0_10 a0_11 a0_12 a0_13 a0_14 a0_15 a0_16 a0_17 a0_18) else (if a0_12 < 0 then (spec_DecOk.j1 kj2 true true a0_1 a0_2 a0_3 a0_4 l0_5 l0_6 a0_7 a0_8 a0_9 a0_10 a0_11 a0_12 a0_13 a0_14 a0_15 a0_16 a0_17 a0_18) else ((spec_TilesOf.f kj2 a0_3 a0_4 l0_5 l0_6).bind fun t158 => (if a0_12 ≥ t158 then (spec_DecOk.j1 kj2 true true a0_1 a0_2 a0_3 a0_4 l0_5 l0_6 a0_7 a0_8 a0_9 a0_10 a0_11 a0_12 a0_13 a0_14 a0_15 a0_16 a0_17 a0_18) else (if a0_1 = true then (spec_DecOk.j1 kj2 false true a0_1 a0_2 a0_3 a0_4 l0_5 l0_6 a0_7 a0_8 a0_9 a0_10 a0_11 a0_12 a0_13 a0_14 a0_15 a0_16 a0_17 a0_18) else (if a0_12 > 0 then (spec_DecOk.j1 kj2 true true a0_1 a0_2 a0_3 a0_4 l0_5 l0_6 a0_7 a0_8 a0_9 a0_10 a0_11 a0_12 a0_13 a0_14 a0_15 a0_16 a0_17 a0_18) else (spec_DecOk.j1 kj2 a0_2 true a0_1 a0_2 a0_3 a0_4 l0_5 l0_6 a0_7 a0_8 a0_9 a0_10 a0_11 a0_12 a0_13 a0_14 a0_15 a0_16 a0_17 a0_18))))))) else (none)) = some r := by first | (rw [hji29] at H; exact H) | (simp only [hji29] at H ⊢; exact H)
              by_cases c30 : 0 ≤ (ji29)
              · rw [if_pos c30] at H
                have c30b0 := eq_true c30
                have c30b1 : decide (0 ≤ (ji29)) = true := decide_eq_true c30
                clear c30
                obtain ⟨ji31, hji31⟩ : ∃ j_ : Int, (shl .i64 1 (ji29)) = j_ := ⟨_, rfl⟩
                replace H : (if a0_11 ≥ (ji31) then (spec_DecOk.j1 kj2 true true a0_1 a0_2 a0_3 a0_4 l0_5 l0_6 a0_7 a0_8 a0_9 a0_10 a0_11 a0_12 a0_13 a0_14 a0_15 a0_16 a0_17 a0_18) else (if a0_12 < 0 then (spec_DecOk.j1 kj2 true true a0_1 a0_2 a0_3 a0_4 l0_5 l0_6 a0_7 a0_8 a0_9 a0_10 a0_11 a0_12 a0_13 a0_14 a0_15 a0_16 a0_17 a0_18) else ((spec_TilesOf.f kj2 a0_3 a0_4 l0_5 l0_6).bind fun t158 => (if a0_12 ≥ t158 then (spec_DecOk.j1 kj2 true true a0_1 a0_2 a0_3 a0_4 l0_5 l0_6 a0_7 a0_8 a0_9 a0_10 a0_11 a0_12 a0_13 a0_14 a0_15 a0_16 a0_17 a0_18) else (if a0_1 = true then (spec_DecOk.j1 kj2 false true a0_1 a0_2 a0_3 a0_4 l0_5 l0_6 a0_7 a0_8 a0_9 a0_10 a0_11 a0_12 a0_13 a0_14 a0_15 a0_16 a0_17 a0_18) else (if a0_12 > 0 then (spec_DecOk.j1 kj2 true true a0_1 a0_2 a0_3 a0_4 l0_5 l0_6 a0_7 a0_8 a0_9 a0_10 a0_11 a0_12 a0_13 a0_14 a0_15 a0_16 a0_17 a0_18) else (spec_DecOk.j1 kj2 a0_2 true a0_1 a0_2 a0_3 a0_4 l0_5 l0_6 a0_7 a0_8 a0_9 a0_10 a0_11 a0_12 a0_13 a0_14 a0_15 a0_16 a0_17 a0_18))))))) = some r := by first | (rw [hji31] at H; exact H) | (simp only [hji31] at H ⊢; exact H)
                have hji31_ : (IntKind.i64.wrap (1 * 2 ^ min (ji29).toNat 64)) = ji31 := hji31
                have hji31z : (ji29) ≤ 64 → (IntKind.i64.wrap (1 * 2 ^ (ji29).toNat)) = ji31 := shl_small hji31
                have hji31u : (IntKind.i64.wrap (2 ^ min (ji29).toNat 64)) = ji31 := by have h_ := hji31_; rw [Int.one_mul] at h_; exact h_
                have hji31v : (ji29) ≤ 64 → (IntKind.i64.wrap (2 ^ (ji29).toNat)) = ji31 := fun hle_ => by have h_ := hji31z hle_; rw [Int.one_mul] at h_; exact h_
                have hji31y : (wrap64 (1 * 2 ^ min (ji29).toNat 64)) = ji31 := (i64_w _).symm.trans hji31_
                have hji31x : (ji29) ≤ 64 → (wrap64 (1 * 2 ^ (ji29).toNat)) = ji31 := fun h_ => (i64_w _).symm.trans (hji31z h_)
                by_cases c32 : a0_11 ≥ (ji31)
                · rw [if_pos c32] at H
                  have c32b0 : decide ((ji31) ≤ a0_11) = true := decide_eq_true c32
                  clear c32
                  have H' := Aside0.mk H
                  clear H
                  as_aux_lemma =>
                  try go_wp2
                  have n0_ := Aside0.mk (blk_drew BK153.out)
                  have n1_ := Aside0.mk (below_drew1 HB.out)
                  clear BK153
                  clear HB
                  have BK153 := n0_
                  have HB := n1_
                  clear n0_ n1_
                  refine start_ (n := 40) (S := fun w' => w'.heap[gb153]? = some (.cells #[.bool true, .bool a0_1, .bool a0_2, .int .i64 a0_3, .int .i64 a0_4, .slice A0_5 l0_5.length c0_5, .slice A0_6 l0_6.length c0_6, .int .i64 a0_7, .bool a0_8, .bool a0_9, .bool a0_10, .int .i64 a0_11, .int .i64 a0_12, .int .i64 a0_13, .int .i64 a0_14, .string a0_15, .int .i64 a0_16, .int .i64 a0_17, .string a0_18] 41 (0, 0))) (ds := []) (tf 0 40) (by kernel_rfl) rfl rfl BK153.out (fun hHeld => ?_); refine with_tabW spec_DecOk.tab5 spec_DecOk.bits5 (fun HT_ HW_ => ?_)
                  generalize wc.drew = w33 at BK153 HB hHeld ⊢
                  refine pure_ (i := 0) (N := some 91) (v := ?_) (a' := ?_) (tf 1 39) rfl rfl (any_of HT_.out (by kernel_rfl)) (fun _ _ _ h => h) (Or.inl ⟨by rfl, ?_⟩) ?_ ?_
                  rotate_left
                  · intro w'
                    go_simp
                    with_reducible rfl
                  rotate_left; (· (simp only [Act.put, List.setIfInBounds_toArray, List.set_cons_zero, List.set_cons_succ, i64_w, i32_w]; rfl))
                  refine take_ (i := 1) (N := some 92) (v := ?_) (a' := ?_) (tf 2 38) rfl rfl (take_ofW HT_.out HW_.out (by kernel_rfl)) (fun _ _ _ h => h) (Or.inl ⟨by rfl, ?_⟩) hHeld ?_ ?_
                  rotate_left
                  · intro w' z153_
                    have hcz153_ : ∀ i, w'.cell? ⟨gb153, i, none⟩ = _ := blk_cell z153_
                    have hfz153_ := blk_frozen z153_
                    first | (refine Eq.trans (load_here (g := gb153) (ty := 41) rfl rfl z153_ (by kernel_rfl) (by kernel_rfl)) ?_; with_reducible rfl) | (go_simp; with_reducible rfl)
                  rotate_left; (· (simp only [Act.put, List.setIfInBounds_toArray, List.set_cons_zero, List.set_cons_succ, i64_w, i32_w]; rfl))
                  refine pure_ (i := 2) (N := some 93) (v := ?_) (a' := ?_) (tf 3 37) rfl rfl (any_of HT_.out (by kernel_rfl)) (fun _ _ _ h => h) (Or.inl ⟨by rfl, ?_⟩) ?_ ?_
                  rotate_left
                  · intro w'
                    go_simp
                    with_reducible rfl
                  rotate_left; (· (simp only [Act.put, List.setIfInBounds_toArray, List.set_cons_zero, List.set_cons_succ, i64_w, i32_w]; rfl))
                  refine pure_ (i := 3) (N := some 94) (v := ?_) (a' := ?_) (tf 4 36) rfl rfl (any_of HT_.out (by kernel_rfl)) (fun _ _ _ h => h) (Or.inl ⟨by rfl, ?_⟩) ?_ ?_
                  rotate_left
                  · intro w'
                    go_simp
                    with_reducible rfl
                  rotate_left; (· (simp only [Act.put, List.setIfInBounds_toArray, List.set_cons_zero, List.set_cons_succ, i64_w, i32_w]; rfl))
                  refine pure_ (i := 4) (N := some 95) (v := ?_) (a' := ?_) (tf 5 35) rfl rfl (any_of HT_.out (by kernel_rfl)) (fun _ _ _ h => h) (Or.inl ⟨by rfl, ?_⟩) ?_ ?_
                  rotate_left
                  · intro w'
                    go_simp
                    with_reducible rfl
                  rotate_left; (· (simp only [Act.put, List.setIfInBounds_toArray, List.set_cons_zero, List.set_cons_succ, i64_w, i32_w]; rfl))
                  refine pure_ (i := 6) (N := some 97) (v := ?_) (a' := ?_) #[true, true, true, true, true, false, true, false, false, false, false, false, false, false, false, false, false, false, false, false, false, false, false, false, false, false, false, false, false, false, false, false, false, false, false, false, false, false, false, false] rfl rfl (any_of HT_.out (by kernel_rfl)) (fun _ _ _ h => h) (Or.inl ⟨by rfl, ?_⟩) ?_ ?_
                  rotate_left
                  · intro w'
                    go_simp
                    with_reducible rfl
                  rotate_left; (· (simp only [Act.put, List.setIfInBounds_toArray, List.set_cons_zero, List.set_cons_succ, i64_w, i32_w]; rfl))
                  refine pure_ (i := 7) (N := some 98) (v := ?_) (a' := ?_) #[true, true, true, true, true, false, true, true, false, false, false, false, false, false, false, false, false, false, false, false, false, false, false, false, false, false, false, false, false, false, false, false, false, false, false, false, false, false, false, false] rfl rfl (any_of HT_.out (by kernel_rfl)) (fun _ _ _ h => h) (Or.inl ⟨by rfl, ?_⟩) ?_ ?_
                  rotate_left
                  · intro w'
                    go_simp
                    with_reducible rfl
                  rotate_left; (· (simp only [Act.put, List.setIfInBounds_toArray, List.set_cons_zero, List.set_cons_succ, i64_w, i32_w]; rfl))
                  refine take_ (i := 5) (N := some 96) (v := ?_) (a' := ?_) (tf 8 32) rfl rfl (take_ofW HT_.out HW_.out (by kernel_rfl)) (fun _ _ _ h => h) (Or.inl ⟨by rfl, ?_⟩) hHeld ?_ ?_
                  rotate_left
                  · intro w' z153_
                    have hcz153_ : ∀ i, w'.cell? ⟨gb153, i, none⟩ = _ := blk_cell z153_
                    have hfz153_ := blk_frozen z153_
                    first | (refine Eq.trans (load_here (g := gb153) (ty := 41) rfl rfl z153_ (by kernel_rfl) (by kernel_rfl)) ?_; with_reducible rfl) | (go_simp; with_reducible rfl)
                  rotate_left; (· (simp only [Act.put, List.setIfInBounds_toArray, List.set_cons_zero, List.set_cons_succ, i64_w, i32_w]; rfl))
                  refine take_ (i := 8) (N := some 99) (v := ?_) (a' := ?_) (tf 9 31) rfl rfl (take_ofW HT_.out HW_.out (by kernel_rfl)) (fun _ _ _ h => h) (Or.inl ⟨by rfl, ?_⟩) hHeld ?_ ?_
                  rotate_left
                  · intro w' z153_
                    have hcz153_ : ∀ i, w'.cell? ⟨gb153, i, none⟩ = _ := blk_cell z153_
                    have hfz153_ := blk_frozen z153_
                    first | (refine Eq.trans (load_here (g := gb153) (ty := 41) rfl rfl z153_ (by kernel_rfl) (by kernel_rfl)) ?_; with_reducible rfl) | (go_simp; with_reducible rfl)
                  rotate_left; (· (simp only [Act.put, List.setIfInBounds_toArray, List.set_cons_zero, List.set_cons_succ, i64_w, i32_w]; rfl))
                  refine pure_ (i := 9) (N := some 100) (v := ?_) (a' := ?_) (tf 10 30) rfl rfl (any_of HT_.out (by kernel_rfl)) (fun _ _ _ h => h) (Or.inl ⟨by rfl, ?_⟩) ?_ ?_
                  rotate_left
                  · intro w'
                    go_simp
                    with_reducible rfl
                  rotate_left; (· (simp only [Act.put, List.setIfInBounds_toArray, List.set_cons_zero, List.set_cons_succ, i64_w, i32_w]; rfl))
                  refine pure_ (i := 10) (N := some 101) (v := ?_) (a' := ?_) (tf 11 29) rfl rfl (any_of HT_.out (by kernel_rfl)) (fun _ _ _ h => h) (Or.inl ⟨by rfl, ?_⟩) ?_ ?_
                  rotate_left
                  · intro w'
                    go_simp
                    with_reducible rfl
                  rotate_left; (· (simp only [Act.put, List.setIfInBounds_toArray, List.set_cons_zero, List.set_cons_succ, i64_w, i32_w]; rfl))
                  refine pure_ (i := 11) (N := some 102) (v := ?_) (a' := ?_) (tf 12 28) rfl rfl (any_of HT_.out (by kernel_rfl)) (fun _ _ _ h => h) (Or.inl ⟨by rfl, ?_⟩) ?_ ?_
                  rotate_left
                  · intro w'
                    go_simp
                    with_reducible rfl
                  rotate_left; (· (simp only [Act.put, List.setIfInBounds_toArray, List.set_cons_zero, List.set_cons_succ, i64_w, i32_w]; rfl))
                  refine pure_ (i := 12) (N := some 103) (v := ?_) (a' := ?_) (tf 13 27) rfl rfl (any_of HT_.out (by kernel_rfl)) (fun _ _ _ h => h) (Or.inl ⟨by rfl, ?_⟩) ?_ ?_
                  rotate_left
                  · intro w'
                    go_simp
                    with_reducible rfl
                  rotate_left; (· (simp only [Act.put, List.setIfInBounds_toArray, List.set_cons_zero, List.set_cons_succ, i64_w, i32_w]; rfl))
                  refine pure_ (i := 13) (N := some 104) (v := ?_) (a' := ?_) (tf 14 26) rfl rfl (any_of HT_.out (by kernel_rfl)) (fun _ _ _ h => h) (Or.inl ⟨by rfl, ?_⟩) ?_ ?_
                  rotate_left
                  · intro w'
                    go_simp
                    with_reducible rfl
                  rotate_left; (· (simp only [Act.put, List.setIfInBounds_toArray, List.set_cons_zero, List.set_cons_succ, i64_w, i32_w]; rfl))
                  refine pure_ (i := 14) (N := some 105) (v := undef) (a' := ?_) (tf 15 25) rfl rfl (any_of HT_.out (by kernel_rfl)) (fun _ _ _ h => h) (Or.inr ⟨by rfl, rfl⟩) ?_ ?_
                  rotate_left; (· (simp only [Act.put, List.setIfInBounds_toArray, List.set_cons_zero, List.set_cons_succ, i64_w, i32_w]; rfl))
                  refine pure_ (i := 15) (N := some 106) (v := undef) (a' := ?_) (tf 16 24) rfl rfl (any_of HT_.out (by kernel_rfl)) (fun _ _ _ h => h) (Or.inr ⟨by rfl, rfl⟩) ?_ ?_
                  rotate_left; (· (simp only [Act.put, List.setIfInBounds_toArray, List.set_cons_zero, List.set_cons_succ, i64_w, i32_w]; rfl))
                  refine pure_ (i := 16) (N := some 107) (v := undef) (a' := ?_) (tf 17 23) rfl rfl (any_of HT_.out (by kernel_rfl)) (fun _ _ _ h => h) (Or.inr ⟨by rfl, rfl⟩) ?_ ?_
                  rotate_left; (· (simp only [Act.put, List.setIfInBounds_toArray, List.set_cons_zero, List.set_cons_succ, i64_w, i32_w]; rfl))
                  refine pure_ (i := 17) (N := some 108) (v := ?_) (a' := ?_) (tf 18 22) rfl rfl (any_of HT_.out (by kernel_rfl)) (fun _ _ _ h => h) (Or.inl ⟨by rfl, ?_⟩) ?_ ?_
                  rotate_left
                  · intro w'
                    go_simp
                    with_reducible rfl
                  rotate_left; (· (simp only [Act.put, List.setIfInBounds_toArray, List.set_cons_zero, List.set_cons_succ, i64_w, i32_w]; rfl))
                  refine pure_ (i := 18) (N := some 109) (v := ?_) (a' := ?_) (tf 19 21) rfl rfl (any_of HT_.out (by kernel_rfl)) (fun _ _ _ h => h) (Or.inl ⟨by rfl, ?_⟩) ?_ ?_
                  rotate_left
                  · intro w'
                    go_simp
                    with_reducible rfl
                  rotate_left; (· (simp only [Act.put, List.setIfInBounds_toArray, List.set_cons_zero, List.set_cons_succ, i64_w, i32_w]; rfl))
                  refine pure_ (i := 19) (N := some 110) (v := undef) (a' := ?_) (tf 20 20) rfl rfl (any_of HT_.out (by kernel_rfl)) (fun _ _ _ h => h) (Or.inr ⟨by rfl, rfl⟩) ?_ ?_
                  rotate_left; (· (simp only [Act.put, List.setIfInBounds_toArray, List.set_cons_zero, List.set_cons_succ, i64_w, i32_w]; rfl))
                  refine pure_ (i := 20) (N := some 111) (v := undef) (a' := ?_) (tf 21 19) rfl rfl (any_of HT_.out (by kernel_rfl)) (fun _ _ _ h => h) (Or.inr ⟨by rfl, rfl⟩) ?_ ?_
                  rotate_left; (· (simp only [Act.put, List.setIfInBounds_toArray, List.set_cons_zero, List.set_cons_succ, i64_w, i32_w]; rfl))
                  refine pure_ (i := 21) (N := some 112) (v := undef) (a' := ?_) (tf 22 18) rfl rfl (any_of HT_.out (by kernel_rfl)) (fun _ _ _ h => h) (Or.inr ⟨by rfl, rfl⟩) ?_ ?_
                  rotate_left; (· (simp only [Act.put, List.setIfInBounds_toArray, List.set_cons_zero, List.set_cons_succ, i64_w, i32_w]; rfl))
                  refine pure_ (i := 22) (N := some 113) (v := undef) (a' := ?_) (tf 23 17) rfl rfl (any_of HT_.out (by kernel_rfl)) (fun _ _ _ h => h) (Or.inr ⟨by rfl, rfl⟩) ?_ ?_
                  rotate_left; (· (simp only [Act.put, List.setIfInBounds_toArray, List.set_cons_zero, List.set_cons_succ, i64_w, i32_w]; rfl))
                  refine pure_ (i := 23) (N := some 114) (v := undef) (a' := ?_) (tf 24 16) rfl rfl (any_of HT_.out (by kernel_rfl)) (fun _ _ _ h => h) (Or.inr ⟨by rfl, rfl⟩) ?_ ?_
                  rotate_left; (· (simp only [Act.put, List.setIfInBounds_toArray, List.set_cons_zero, List.set_cons_succ, i64_w, i32_w]; rfl))
                  refine pure_ (i := 24) (N := some 115) (v := undef) (a' := ?_) (tf 25 15) rfl rfl (any_of HT_.out (by kernel_rfl)) (fun _ _ _ h => h) (Or.inr ⟨by rfl, rfl⟩) ?_ ?_
                  rotate_left; (· (simp only [Act.put, List.setIfInBounds_toArray, List.set_cons_zero, List.set_cons_succ, i64_w, i32_w]; rfl))
                  refine pure_ (i := 25) (N := some 116) (v := ?_) (a' := ?_) (tf 26 14) rfl rfl (any_of HT_.out (by kernel_rfl)) (fun _ _ _ h => h) (Or.inl ⟨by rfl, ?_⟩) ?_ ?_
                  rotate_left
                  · intro w'
                    go_simp
                    with_reducible rfl
                  rotate_left; (· (simp only [Act.put, List.setIfInBounds_toArray, List.set_cons_zero, List.set_cons_succ, i64_w, i32_w]; rfl))
                  refine pure_ (i := 26) (N := some 117) (v := ?_) (a' := ?_) (tf 27 13) rfl rfl (any_of HT_.out (by kernel_rfl)) (fun _ _ _ h => h) (Or.inl ⟨by rfl, ?_⟩) ?_ ?_
                  rotate_left
                  · intro w'
                    go_simp
                    with_reducible rfl
                  rotate_left; (· (simp only [Act.put, List.setIfInBounds_toArray, List.set_cons_zero, List.set_cons_succ, i64_w, i32_w]; rfl))
                  refine pure_ (i := 27) (N := some 118) (v := undef) (a' := ?_) (tf 28 12) rfl rfl (any_of HT_.out (by kernel_rfl)) (fun _ _ _ h => h) (Or.inr ⟨by rfl, rfl⟩) ?_ ?_
                  rotate_left; (· (simp only [Act.put, List.setIfInBounds_toArray, List.set_cons_zero, List.set_cons_succ, i64_w, i32_w]; rfl))
                  refine pure_ (i := 28) (N := some 119) (v := undef) (a' := ?_) (tf 29 11) rfl rfl (any_of HT_.out (by kernel_rfl)) (fun _ _ _ h => h) (Or.inr ⟨by rfl, rfl⟩) ?_ ?_
                  rotate_left; (· (simp only [Act.put, List.setIfInBounds_toArray, List.set_cons_zero, List.set_cons_succ, i64_w, i32_w]; rfl))
                  refine pure_ (i := 29) (N := some 120) (v := undef) (a' := ?_) (tf 30 10) rfl rfl (any_of HT_.out (by kernel_rfl)) (fun _ _ _ h => h) (Or.inr ⟨by rfl, rfl⟩) ?_ ?_
                  rotate_left; (· (simp only [Act.put, List.setIfInBounds_toArray, List.set_cons_zero, List.set_cons_succ, i64_w, i32_w]; rfl))
                  refine pure_ (i := 30) (N := some 121) (v := undef) (a' := ?_) (tf 31 9) rfl rfl (any_of HT_.out (by kernel_rfl)) (fun _ _ _ h => h) (Or.inr ⟨by rfl, rfl⟩) ?_ ?_
                  rotate_left; (· (simp only [Act.put, List.setIfInBounds_toArray, List.set_cons_zero, List.set_cons_succ, i64_w, i32_w]; rfl))
                  refine pure_ (i := 31) (N := some 122) (v := undef) (a' := ?_) (tf 32 8) rfl rfl (any_of HT_.out (by kernel_rfl)) (fun _ _ _ h => h) (Or.inr ⟨by rfl, rfl⟩) ?_ ?_
                  rotate_left; (· (simp only [Act.put, List.setIfInBounds_toArray, List.set_cons_zero, List.set_cons_succ, i64_w, i32_w]; rfl))
                  refine pure_ (i := 32) (N := some 123) (v := undef) (a' := ?_) (tf 33 7) rfl rfl (any_of HT_.out (by kernel_rfl)) (fun _ _ _ h => h) (Or.inr ⟨by rfl, rfl⟩) ?_ ?_
                  rotate_left; (· (simp only [Act.put, List.setIfInBounds_toArray, List.set_cons_zero, List.set_cons_succ, i64_w, i32_w]; rfl))
                  refine pure_ (i := 33) (N := some 124) (v := undef) (a' := ?_) (tf 34 6) rfl rfl (any_of HT_.out (by kernel_rfl)) (fun _ _ _ h => h) (Or.inr ⟨by rfl, rfl⟩) ?_ ?_
                  rotate_left; (· (simp only [Act.put, List.setIfInBounds_toArray, List.set_cons_zero, List.set_cons_succ, i64_w, i32_w]; rfl))
                  refine pure_ (i := 34) (N := some 125) (v := undef) (a' := ?_) (tf 35 5) rfl rfl (any_of HT_.out (by kernel_rfl)) (fun _ _ _ h => h) (Or.inr ⟨by rfl, rfl⟩) ?_ ?_
                  rotate_left; (· (simp only [Act.put, List.setIfInBounds_toArray, List.set_cons_zero, List.set_cons_succ, i64_w, i32_w]; rfl))
                  refine pure_ (i := 35) (N := some 126) (v := undef) (a' := ?_) (tf 36 4) rfl rfl (any_of HT_.out (by kernel_rfl)) (fun _ _ _ h => h) (Or.inr ⟨by rfl, rfl⟩) ?_ ?_
                  rotate_left; (· (simp only [Act.put, List.setIfInBounds_toArray, List.set_cons_zero, List.set_cons_succ, i64_w, i32_w]; rfl))
                  refine pure_ (i := 36) (N := some 127) (v := undef) (a' := ?_) (tf 37 3) rfl rfl (any_of HT_.out (by kernel_rfl)) (fun _ _ _ h => h) (Or.inr ⟨by rfl, rfl⟩) ?_ ?_
                  rotate_left; (· (simp only [Act.put, List.setIfInBounds_toArray, List.set_cons_zero, List.set_cons_succ, i64_w, i32_w]; rfl))
                  refine pure_ (i := 37) (N := some 128) (v := undef) (a' := ?_) (tf 38 2) rfl rfl (any_of HT_.out (by kernel_rfl)) (fun _ _ _ h => h) (Or.inr ⟨by rfl, rfl⟩) ?_ ?_
                  rotate_left; (· (simp only [Act.put, List.setIfInBounds_toArray, List.set_cons_zero, List.set_cons_succ, i64_w, i32_w]; rfl))
                  refine pure_ (i := 38) (N := some 129) (v := undef) (a' := ?_) (tf 39 1) rfl rfl (any_of HT_.out (by kernel_rfl)) (fun _ _ _ h => h) (Or.inr ⟨by rfl, rfl⟩) ?_ ?_
                  rotate_left; (· (simp only [Act.put, List.setIfInBounds_toArray, List.set_cons_zero, List.set_cons_succ, i64_w, i32_w]; rfl))
                  refine pure_ (i := 39) (N := some 130) (v := ?_) (a' := ?_) (tf 40 0) rfl rfl (any_of HT_.out (by kernel_rfl)) (fun _ _ _ h => h) (Or.inl ⟨by rfl, ?_⟩) ?_ ?_
                  rotate_left
                  · intro w'
                    go_simp
                    with_reducible rfl
                  rotate_left; (· (simp only [Act.put, List.setIfInBounds_toArray, List.set_cons_zero, List.set_cons_succ, i64_w, i32_w]; rfl))
                  refine done_ (done_of HT_.out (by kernel_rfl)) ?_
                  try go_wp2
                  go_meet
                  case rel => exact ⟨_, (true), (by first | rfl | (simp; done) | (simp [*]; done)), H', ⟨by have := HJ2.out; first | omega | exact Nat.le_refl _⟩, ⟨by (with_reducible repeat (first | refine blk_drewN ?_ _ | refine blk_drew ?_ | refine blk_alloc ?_ _)); exact BK153.out⟩, ⟨bl⟩⟩
                · rw [if_neg c32] at H
                  have c32b0 : decide ((ji31) ≤ a0_11) = false := decide_eq_false c32
                  clear c32
                  by_cases c34 : a0_12 < 0
                  · rw [if_pos c34] at H
                    have c34b0 : decide (a0_12 < 0) = true := decide_eq_true c34
                    clear c34
                    have H' := Aside0.mk H
                    clear H
                    as_aux_lemma =>
                    try go_wp2
                    have n0_ := Aside0.mk (blk_drew BK153.out)
                    have n1_ := Aside0.mk (below_drew1 HB.out)
                    clear BK153
                    clear HB
                    have BK153 := n0_
                    have HB := n1_
                    clear n0_ n1_
                    refine start_ (n := 40) (S := fun w' => w'.heap[gb153]? = some (.cells #[.bool true, .bool a0_1, .bool a0_2, .int .i64 a0_3, .int .i64 a0_4, .slice A0_5 l0_5.length c0_5, .slice A0_6 l0_6.length c0_6, .int .i64 a0_7, .bool a0_8, .bool a0_9, .bool a0_10, .int .i64 a0_11, .int .i64 a0_12, .int .i64 a0_13, .int .i64 a0_14, .string a0_15, .int .i64 a0_16, .int .i64 a0_17, .string a0_18] 41 (0, 0))) (ds := []) (tf 0 40) (by kernel_rfl) rfl rfl BK153.out (fun hHeld => ?_); refine with_tabW spec_DecOk.tab5 spec_DecOk.bits5 (fun HT_ HW_ => ?_)
                    generalize wc.drew = w35 at BK153 HB hHeld ⊢
                    refine pure_ (i := 0) (N := some 91) (v := ?_) (a' := ?_) (tf 1 39) rfl rfl (any_of HT_.out (by kernel_rfl)) (fun _ _ _ h => h) (Or.inl ⟨by rfl, ?_⟩) ?_ ?_
                    rotate_left
                    · intro w'
                      go_simp
                      with_reducible rfl
                    rotate_left; (· (simp only [Act.put, List.setIfInBounds_toArray, List.set_cons_zero, List.set_cons_succ, i64_w, i32_w]; rfl))
                    refine take_ (i := 1) (N := some 92) (v := ?_) (a' := ?_) (tf 2 38) rfl rfl (take_ofW HT_.out HW_.out (by kernel_rfl)) (fun _ _ _ h => h) (Or.inl ⟨by rfl, ?_⟩) hHeld ?_ ?_
                    rotate_left
                    · intro w' z153_
                      have hcz153_ : ∀ i, w'.cell? ⟨gb153, i, none⟩ = _ := blk_cell z153_
                      have hfz153_ := blk_frozen z153_
                      first | (refine Eq.trans (load_here (g := gb153) (ty := 41) rfl rfl z153_ (by kernel_rfl) (by kernel_rfl)) ?_; with_reducible rfl) | (go_simp; with_reducible rfl)
                    rotate_left; (· (simp only [Act.put, List.setIfInBounds_toArray, List.set_cons_zero, List.set_cons_succ, i64_w, i32_w]; rfl))
                    refine pure_ (i := 2) (N := some 93) (v := ?_) (a' := ?_) (tf 3 37) rfl rfl (any_of HT_.out (by kernel_rfl)) (fun _ _ _ h => h) (Or.inl ⟨by rfl, ?_⟩) ?_ ?_
                    rotate_left
                    · intro w'
                      go_simp
                      with_reducible rfl
                    rotate_left; (· (simp only [Act.put, List.setIfInBounds_toArray, List.set_cons_zero, List.set_cons_succ, i64_w, i32_w]; rfl))
                    refine pure_ (i := 3) (N := some 94) (v := ?_) (a' := ?_) (tf 4 36) rfl rfl (any_of HT_.out (by kernel_rfl)) (fun _ _ _ h => h) (Or.inl ⟨by rfl, ?_⟩) ?_ ?_
                    rotate_left
                    · intro w'
                      go_simp
                      with_reducible rfl
                    rotate_left; (· (simp only [Act.put, List.setIfInBounds_toArray, List.set_cons_zero, List.set_cons_succ, i64_w, i32_w]; rfl))
                    refine pure_ (i := 4) (N := some 95) (v := ?_) (a' := ?_) (tf 5 35) rfl rfl (any_of HT_.out (by kernel_rfl)) (fun _ _ _ h => h) (Or.inl ⟨by rfl, ?_⟩) ?_ ?_
                    rotate_left
                    · intro w'
                      go_simp
                      with_reducible rfl
                    rotate_left; (· (simp only [Act.put, List.setIfInBounds_toArray, List.set_cons_zero, List.set_cons_succ, i64_w, i32_w]; rfl))
                    refine pure_ (i := 6) (N := some 97) (v := ?_) (a' := ?_) #[true, true, true, true, true, false, true, false, false, false, false, false, false, false, false, false, false, false, false, false, false, false, false, false, false, false, false, false, false, false, false, false, false, false, false, false, false, false, false, false] rfl rfl (any_of HT_.out (by kernel_rfl)) (fun _ _ _ h => h) (Or.inl ⟨by rfl, ?_⟩) ?_ ?_
                    rotate_left
                    · intro w'
                      go_simp
                      with_reducible rfl
                    rotate_left; (· (simp only [Act.put, List.setIfInBounds_toArray, List.set_cons_zero, List.set_cons_succ, i64_w, i32_w]; rfl))
                    refine pure_ (i := 7) (N := some 98) (v := ?_) (a' := ?_) #[true, true, true, true, true, false, true, true, false, false, false, false, false, false, false, false, false, false, false, false, false, false, false, false, false, false, false, false, false, false, false, false, false, false, false, false, false, false, false, false] rfl rfl (any_of HT_.out (by kernel_rfl)) (fun _ _ _ h => h) (Or.inl ⟨by rfl, ?_⟩) ?_ ?_
                    rotate_left
                    · intro w'
                      go_simp
                      with_reducible rfl
                    rotate_left; (· (simp only [Act.put, List.setIfInBounds_toArray, List.set_cons_zero, List.set_cons_succ, i64_w, i32_w]; rfl))
                    refine take_ (i := 5) (N := some 96) (v := ?_) (a' := ?_) (tf 8 32) rfl rfl (take_ofW HT_.out HW_.out (by kernel_rfl)) (fun _ _ _ h => h) (Or.inl ⟨by rfl, ?_⟩) hHeld ?_ ?_
                    rotate_left
                    · intro w' z153_
                      have hcz153_ : ∀ i, w'.cell? ⟨gb153, i, none⟩ = _ := blk_cell z153_
                      have hfz153_ := blk_frozen z153_
                      first | (refine Eq.trans (load_here (g := gb153) (ty := 41) rfl rfl z153_ (by kernel_rfl) (by kernel_rfl)) ?_; with_reducible rfl) | (go_simp; with_reducible rfl)
                    rotate_left; (· (simp only [Act.put, List.setIfInBounds_toArray, List.set_cons_zero, List.set_cons_succ, i64_w, i32_w]; rfl))
                    refine take_ (i := 8) (N := some 99) (v := ?_) (a' := ?_) (tf 9 31) rfl rfl (take_ofW HT_.out HW_.out (by kernel_rfl)) (fun _ _ _ h => h) (Or.inl ⟨by rfl, ?_⟩) hHeld ?_ ?_
                    rotate_left
                    · intro w' z153_
                      have hcz153_ : ∀ i, w'.cell? ⟨gb153, i, none⟩ = _ := blk_cell z153_
                      have hfz153_ := blk_frozen z153_
                      first | (refine Eq.trans (load_here (g := gb153) (ty := 41) rfl rfl z153_ (by kernel_rfl) (by kernel_rfl)) ?_; with_reducible rfl) | (go_simp; with_reducible rfl)
                    rotate_left; (· (simp only [Act.put, List.setIfInBounds_toArray, List.set_cons_zero, List.set_cons_succ, i64_w, i32_w]; rfl))
                    refine pure_ (i := 9) (N := some 100) (v := ?_) (a' := ?_) (tf 10 30) rfl rfl (any_of HT_.out (by kernel_rfl)) (fun _ _ _ h => h) (Or.inl ⟨by rfl, ?_⟩) ?_ ?_
                    rotate_left
                    · intro w'
                      go_simp
                      with_reducible rfl
                    rotate_left; (· (simp only [Act.put, List.setIfInBounds_toArray, List.set_cons_zero, List.set_cons_succ, i64_w, i32_w]; rfl))
                    refine pure_ (i := 10) (N := some 101) (v := ?_) (a' := ?_) (tf 11 29) rfl rfl (any_of HT_.out (by kernel_rfl)) (fun _ _ _ h => h) (Or.inl ⟨by rfl, ?_⟩) ?_ ?_
                    rotate_left
                    · intro w'
                      go_simp
                      with_reducible rfl
                    rotate_left; (· (simp only [Act.put, List.setIfInBounds_toArray, List.set_cons_zero, List.set_cons_succ, i64_w, i32_w]; rfl))
                    refine pure_ (i := 11) (N := some 102) (v := ?_) (a' := ?_) (tf 12 28) rfl rfl (any_of HT_.out (by kernel_rfl)) (fun _ _ _ h => h) (Or.inl ⟨by rfl, ?_⟩) ?_ ?_
                    rotate_left
                    · intro w'
                      go_simp
                      with_reducible rfl
                    rotate_left; (· (simp only [Act.put, List.setIfInBounds_toArray, List.set_cons_zero, List.set_cons_succ, i64_w, i32_w]; rfl))
                    refine pure_ (i := 12) (N := some 103) (v := ?_) (a' := ?_) (tf 13 27) rfl rfl (any_of HT_.out (by kernel_rfl)) (fun _ _ _ h => h) (Or.inl ⟨by rfl, ?_⟩) ?_ ?_
                    rotate_left
                    · intro w'
                      go_simp
                      with_reducible rfl
                    rotate_left; (· (simp only [Act.put, List.setIfInBounds_toArray, List.set_cons_zero, List.set_cons_succ, i64_w, i32_w]; rfl))
                    refine pure_ (i := 13) (N := some 104) (v := ?_) (a' := ?_) (tf 14 26) rfl rfl (any_of HT_.out (by kernel_rfl)) (fun _ _ _ h => h) (Or.inl ⟨by rfl, ?_⟩) ?_ ?_
                    rotate_left
                    · intro w'
                      go_simp
                      with_reducible rfl
                    rotate_left; (· (simp only [Act.put, List.setIfInBounds_toArray, List.set_cons_zero, List.set_cons_succ, i64_w, i32_w]; rfl))
                    refine pure_ (i := 14) (N := some 105) (v := ?_) (a' := ?_) (tf 15 25) rfl rfl (any_of HT_.out (by kernel_rfl)) (fun _ _ _ h => h) (Or.inl ⟨by rfl, ?_⟩) ?_ ?_
                    rotate_left
                    · intro w'
                      go_simp
                      with_reducible rfl
                    rotate_left; (· (simp only [Act.put, List.setIfInBounds_toArray, List.set_cons_zero, List.set_cons_succ, i64_w, i32_w]; rfl))
                    refine take_ (i := 15) (N := some 106) (v := ?_) (a' := ?_) (tf 16 24) rfl rfl (take_ofW HT_.out HW_.out (by kernel_rfl)) (fun _ _ _ h => h) (Or.inl ⟨by rfl, ?_⟩) hHeld ?_ ?_
                    rotate_left
                    · intro w' z153_
                      have hcz153_ : ∀ i, w'.cell? ⟨gb153, i, none⟩ = _ := blk_cell z153_
                      have hfz153_ := blk_frozen z153_
                      first | (refine Eq.trans (load_here (g := gb153) (ty := 41) rfl rfl z153_ (by kernel_rfl) (by kernel_rfl)) ?_; with_reducible rfl) | (go_simp; with_reducible rfl)
                    rotate_left; (· (simp only [Act.put, List.setIfInBounds_toArray, List.set_cons_zero, List.set_cons_succ, i64_w, i32_w]; rfl))
                    refine pure_ (i := 16) (N := some 107) (v := ?_) (a' := ?_) (tf 17 23) rfl rfl (any_of HT_.out (by kernel_rfl)) (fun _ _ _ h => h) (Or.inl ⟨by rfl, ?_⟩) ?_ ?_
                    rotate_left
                    · intro w'
                      go_simp
                      with_reducible rfl
                    rotate_left; (· (simp only [Act.put, List.setIfInBounds_toArray, List.set_cons_zero, List.set_cons_succ, i64_w, i32_w]; rfl))
                    refine pure_ (i := 17) (N := some 108) (v := ?_) (a' := ?_) (tf 18 22) rfl rfl (any_of HT_.out (by kernel_rfl)) (fun _ _ _ h => h) (Or.inl ⟨by rfl, ?_⟩) ?_ ?_
                    rotate_left
                    · intro w'
                      go_simp
                      with_reducible rfl
                    rotate_left; (· (simp only [Act.put, List.setIfInBounds_toArray, List.set_cons_zero, List.set_cons_succ, i64_w, i32_w]; rfl))
                    refine pure_ (i := 18) (N := some 109) (v := ?_) (a' := ?_) (tf 19 21) rfl rfl (any_of HT_.out (by kernel_rfl)) (fun _ _ _ h => h) (Or.inl ⟨by rfl, ?_⟩) ?_ ?_
                    rotate_left
                    · intro w'
                      go_simp
                      with_reducible rfl
                    rotate_left; (· (simp only [Act.put, List.setIfInBounds_toArray, List.set_cons_zero, List.set_cons_succ, i64_w, i32_w]; rfl))
                    refine pure_ (i := 19) (N := some 110) (v := undef) (a' := ?_) (tf 20 20) rfl rfl (any_of HT_.out (by kernel_rfl)) (fun _ _ _ h => h) (Or.inr ⟨by rfl, rfl⟩) ?_ ?_
                    rotate_left; (· (simp only [Act.put, List.setIfInBounds_toArray, List.set_cons_zero, List.set_cons_succ, i64_w, i32_w]; rfl))
                    refine pure_ (i := 20) (N := some 111) (v := undef) (a' := ?_) (tf 21 19) rfl rfl (any_of HT_.out (by kernel_rfl)) (fun _ _ _ h => h) (Or.inr ⟨by rfl, rfl⟩) ?_ ?_
                    rotate_left; (· (simp only [Act.put, List.setIfInBounds_toArray, List.set_cons_zero, List.set_cons_succ, i64_w, i32_w]; rfl))
                    refine pure_ (i := 21) (N := some 112) (v := undef) (a' := ?_) (tf 22 18) rfl rfl (any_of HT_.out (by kernel_rfl)) (fun _ _ _ h => h) (Or.inr ⟨by rfl, rfl⟩) ?_ ?_
                    rotate_left; (· (simp only [Act.put, List.setIfInBounds_toArray, List.set_cons_zero, List.set_cons_succ, i64_w, i32_w]; rfl))
                    refine pure_ (i := 22) (N := some 113) (v := undef) (a' := ?_) (tf 23 17) rfl rfl (any_of HT_.out (by kernel_rfl)) (fun _ _ _ h => h) (Or.inr ⟨by rfl, rfl⟩) ?_ ?_
                    rotate_left; (· (simp only [Act.put, List.setIfInBounds_toArray, List.set_cons_zero, List.set_cons_succ, i64_w, i32_w]; rfl))
                    refine pure_ (i := 23) (N := some 114) (v := undef) (a' := ?_) (tf 24 16) rfl rfl (any_of HT_.out (by kernel_rfl)) (fun _ _ _ h => h) (Or.inr ⟨by rfl, rfl⟩) ?_ ?_
                    rotate_left; (· (simp only [Act.put, List.setIfInBounds_toArray, List.set_cons_zero, List.set_cons_succ, i64_w, i32_w]; rfl))
                    refine pure_ (i := 24) (N := some 115) (v := undef) (a' := ?_) (tf 25 15) rfl rfl (any_of HT_.out (by kernel_rfl)) (fun _ _ _ h => h) (Or.inr ⟨by rfl, rfl⟩) ?_ ?_
                    rotate_left; (· (simp only [Act.put, List.setIfInBounds_toArray, List.set_cons_zero, List.set_cons_succ, i64_w, i32_w]; rfl))
                    refine pure_ (i := 25) (N := some 116) (v := ?_) (a' := ?_) (tf 26 14) rfl rfl (any_of HT_.out (by kernel_rfl)) (fun _ _ _ h => h) (Or.inl ⟨by rfl, ?_⟩) ?_ ?_
                    rotate_left
                    · intro w'
                      go_simp
                      with_reducible rfl
                    rotate_left; (· (simp only [Act.put, List.setIfInBounds_toArray, List.set_cons_zero, List.set_cons_succ, i64_w, i32_w]; rfl))
                    refine pure_ (i := 26) (N := some 117) (v := ?_) (a' := ?_) (tf 27 13) rfl rfl (any_of HT_.out (by kernel_rfl)) (fun _ _ _ h => h) (Or.inl ⟨by rfl, ?_⟩) ?_ ?_
                    rotate_left
                    · intro w'
                      go_simp
                      with_reducible rfl
                    rotate_left; (· (simp only [Act.put, List.setIfInBounds_toArray, List.set_cons_zero, List.set_cons_succ, i64_w, i32_w]; rfl))
                    refine pure_ (i := 27) (N := some 118) (v := undef) (a' := ?_) (tf 28 12) rfl rfl (any_of HT_.out (by kernel_rfl)) (fun _ _ _ h => h) (Or.inr ⟨by rfl, rfl⟩) ?_ ?_
                    rotate_left; (· (simp only [Act.put, List.setIfInBounds_toArray, List.set_cons_zero, List.set_cons_succ, i64_w, i32_w]; rfl))
                    refine pure_ (i := 28) (N := some 119) (v := undef) (a' := ?_) (tf 29 11) rfl rfl (any_of HT_.out (by kernel_rfl)) (fun _ _ _ h => h) (Or.inr ⟨by rfl, rfl⟩) ?_ ?_
                    rotate_left; (· (simp only [Act.put, List.setIfInBounds_toArray, List.set_cons_zero, List.set_cons_succ, i64_w, i32_w]; rfl))
                    refine pure_ (i := 29) (N := some 120) (v := undef) (a' := ?_) (tf 30 10) rfl rfl (any_of HT_.out (by kernel_rfl)) (fun _ _ _ h => h) (Or.inr ⟨by rfl, rfl⟩) ?_ ?_
                    rotate_left; (· (simp only [Act.put, List.setIfInBounds_toArray, List.set_cons_zero, List.set_cons_succ, i64_w, i32_w]; rfl))
                    refine pure_ (i := 30) (N := some 121) (v := undef) (a' := ?_) (tf 31 9) rfl rfl (any_of HT_.out (by kernel_rfl)) (fun _ _ _ h => h) (Or.inr ⟨by rfl, rfl⟩) ?_ ?_
                    rotate_left; (· (simp only [Act.put, List.setIfInBounds_toArray, List.set_cons_zero, List.set_cons_succ, i64_w, i32_w]; rfl))
                    refine pure_ (i := 31) (N := some 122) (v := undef) (a' := ?_) (tf 32 8) rfl rfl (any_of HT_.out (by kernel_rfl)) (fun _ _ _ h => h) (Or.inr ⟨by rfl, rfl⟩) ?_ ?_
                    rotate_left; (· (simp only [Act.put, List.setIfInBounds_toArray, List.set_cons_zero, List.set_cons_succ, i64_w, i32_w]; rfl))
                    refine pure_ (i := 32) (N := some 123) (v := undef) (a' := ?_) (tf 33 7) rfl rfl (any_of HT_.out (by kernel_rfl)) (fun _ _ _ h => h) (Or.inr ⟨by rfl, rfl⟩) ?_ ?_
                    rotate_left; (· (simp only [Act.put, List.setIfInBounds_toArray, List.set_cons_zero, List.set_cons_succ, i64_w, i32_w]; rfl))
                    refine pure_ (i := 33) (N := some 124) (v := undef) (a' := ?_) (tf 34 6) rfl rfl (any_of HT_.out (by kernel_rfl)) (fun _ _ _ h => h) (Or.inr ⟨by rfl, rfl⟩) ?_ ?_
                    rotate_left; (· (simp only [Act.put, List.setIfInBounds_toArray, List.set_cons_zero, List.set_cons_succ, i64_w, i32_w]; rfl))
                    refine pure_ (i := 34) (N := some 125) (v := undef) (a' := ?_) (tf 35 5) rfl rfl (any_of HT_.out (by kernel_rfl)) (fun _ _ _ h => h) (Or.inr ⟨by rfl, rfl⟩) ?_ ?_
                    rotate_left; (· (simp only [Act.put, List.setIfInBounds_toArray, List.set_cons_zero, List.set_cons_succ, i64_w, i32_w]; rfl))
                    refine pure_ (i := 35) (N := some 126) (v := undef) (a' := ?_) (tf 36 4) rfl rfl (any_of HT_.out (by kernel_rfl)) (fun _ _ _ h => h) (Or.inr ⟨by rfl, rfl⟩) ?_ ?_
                    rotate_left; (· (simp only [Act.put, List.setIfInBounds_toArray, List.set_cons_zero, List.set_cons_succ, i64_w, i32_w]; rfl))
                    refine pure_ (i := 36) (N := some 127) (v := undef) (a' := ?_) (tf 37 3) rfl rfl (any_of HT_.out (by kernel_rfl)) (fun _ _ _ h => h) (Or.inr ⟨by rfl, rfl⟩) ?_ ?_
                    rotate_left; (· (simp only [Act.put, List.setIfInBounds_toArray, List.set_cons_zero, List.set_cons_succ, i64_w, i32_w]; rfl))
                    refine pure_ (i := 37) (N := some 128) (v := undef) (a' := ?_) (tf 38 2) rfl rfl (any_of HT_.out (by kernel_rfl)) (fun _ _ _ h => h) (Or.inr ⟨by rfl, rfl⟩) ?_ ?_
                    rotate_left; (· (simp only [Act.put, List.setIfInBounds_toArray, List.set_cons_zero, List.set_cons_succ, i64_w, i32_w]; rfl))
                    refine pure_ (i := 38) (N := some 129) (v := undef) (a' := ?_) (tf 39 1) rfl rfl (any_of HT_.out (by kernel_rfl)) (fun _ _ _ h => h) (Or.inr ⟨by rfl, rfl⟩) ?_ ?_
                    rotate_left; (· (simp only [Act.put, List.setIfInBounds_toArray, List.set_cons_zero, List.set_cons_succ, i64_w, i32_w]; rfl))
                    refine pure_ (i := 39) (N := some 130) (v := ?_) (a' := ?_) (tf 40 0) rfl rfl (any_of HT_.out (by kernel_rfl)) (fun _ _ _ h => h) (Or.inl ⟨by rfl, ?_⟩) ?_ ?_
                    rotate_left
                    · intro w'
                      go_simp
                      with_reducible rfl
                    rotate_left; (· (simp only [Act.put, List.setIfInBounds_toArray, List.set_cons_zero, List.set_cons_succ, i64_w, i32_w]; rfl))
                    refine done_ (done_of HT_.out (by kernel_rfl)) ?_
                    try go_wp2
                    go_meet
                    case rel => exact ⟨_, (true), (by first | rfl | (simp; done) | (simp [*]; done)), H', ⟨by have := HJ2.out; first | omega | exact Nat.le_refl _⟩, ⟨by (with_reducible repeat (first | refine blk_drewN ?_ _ | refine blk_drew ?_ | refine blk_alloc ?_ _)); exact BK153.out⟩, ⟨bl⟩⟩
                  · rw [if_neg c34] at H
                    have c34b0 : decide (a0_12 < 0) = false := decide_eq_false c34
                    clear c34
                    replace H := Option.bind_eq_some_iff.mp H
                    obtain ⟨t158, A360, H⟩ := H
                    (try dsimp only at H)
                    have A36 := Aside0.mk A360
                    clear A360
                    by_cases c37 : a0_12 ≥ t158
                    · rw [if_pos c37] at H
                      have c37b0 : decide (t158 ≤ a0_12) = true := decide_eq_true c37
                      clear c37
                      have H' := Aside0.mk H
                      clear H
                      as_aux_lemma =>
                      try go_wp2
                      have n0_ := Aside0.mk (blk_drew BK153.out)
                      have n1_ := Aside0.mk (below_drew1 HB.out)
                      clear BK153
                      clear HB
                      have BK153 := n0_
                      have HB := n1_
                      clear n0_ n1_
                      refine start_ (n := 40) (S := fun w' => w'.heap[gb153]? = some (.cells #[.bool true, .bool a0_1, .bool a0_2, .int .i64 a0_3, .int .i64 a0_4, .slice A0_5 l0_5.length c0_5, .slice A0_6 l0_6.length c0_6, .int .i64 a0_7, .bool a0_8, .bool a0_9, .bool a0_10, .int .i64 a0_11, .int .i64 a0_12, .int .i64 a0_13, .int .i64 a0_14, .string a0_15, .int .i64 a0_16, .int .i64 a0_17, .string a0_18] 41 (0, 0))) (ds := []) (tf 0 40) (by kernel_rfl) rfl rfl BK153.out (fun hHeld => ?_); refine with_tabW spec_DecOk.tab5 spec_DecOk.bits5 (fun HT_ HW_ => ?_)
                      generalize wc.drew = w38 at BK153 HB hHeld ⊢
                      refine pure_ (i := 0) (N := some 91) (v := ?_) (a' := ?_) (tf 1 39) rfl rfl (any_of HT_.out (by kernel_rfl)) (fun _ _ _ h => h) (Or.inl ⟨by rfl, ?_⟩) ?_ ?_
                      rotate_left
                      · intro w'
                        go_simp
                        with_reducible rfl
                      rotate_left; (· (simp only [Act.put, List.setIfInBounds_toArray, List.set_cons_zero, List.set_cons_succ, i64_w, i32_w]; rfl))
                      refine take_ (i := 1) (N := some 92) (v := ?_) (a' := ?_) (tf 2 38) rfl rfl (take_ofW HT_.out HW_.out (by kernel_rfl)) (fun _ _ _ h => h) (Or.inl ⟨by rfl, ?_⟩) hHeld ?_ ?_
                      rotate_left
                      · intro w' z153_
                        have hcz153_ : ∀ i, w'.cell? ⟨gb153, i, none⟩ = _ := blk_cell z153_
                        have hfz153_ := blk_frozen z153_
                        first | (refine Eq.trans (load_here (g := gb153) (ty := 41) rfl rfl z153_ (by kernel_rfl) (by kernel_rfl)) ?_; with_reducible rfl) | (go_simp; with_reducible rfl)
                      rotate_left; (· (simp only [Act.put, List.setIfInBounds_toArray, List.set_cons_zero, List.set_cons_succ, i64_w, i32_w]; rfl))
                      refine pure_ (i := 2) (N := some 93) (v := ?_) (a' := ?_) (tf 3 37) rfl rfl (any_of HT_.out (by kernel_rfl)) (fun _ _ _ h => h) (Or.inl ⟨by rfl, ?_⟩) ?_ ?_
                      rotate_left
                      · intro w'
                        go_simp
                        with_reducible rfl
                      rotate_left; (· (simp only [Act.put, List.setIfInBounds_toArray, List.set_cons_zero, List.set_cons_succ, i64_w, i32_w]; rfl))
                      refine pure_ (i := 3) (N := some 94) (v := ?_) (a' := ?_) (tf 4 36) rfl rfl (any_of HT_.out (by kernel_rfl)) (fun _ _ _ h => h) (Or.inl ⟨by rfl, ?_⟩) ?_ ?_
                      rotate_left
                      · intro w'
                        go_simp
                        with_reducible rfl
                      rotate_left; (· (simp only [Act.put, List.setIfInBounds_toArray, List.set_cons_zero, List.set_cons_succ, i64_w, i32_w]; rfl))
                      refine pure_ (i := 4) (N := some 95) (v := ?_) (a' := ?_) (tf 5 35) rfl rfl (any_of HT_.out (by kernel_rfl)) (fun _ _ _ h => h) (Or.inl ⟨by rfl, ?_⟩) ?_ ?_
                      rotate_left
                      · intro w'
                        go_simp
                        with_reducible rfl
                      rotate_left; (· (simp only [Act.put, List.setIfInBounds_toArray, List.set_cons_zero, List.set_cons_succ, i64_w, i32_w]; rfl))
                      refine pure_ (i := 6) (N := some 97) (v := ?_) (a' := ?_) #[true, true, true, true, true, false, true, false, false, false, false, false, false, false, false, false, false, false, false, false, false, false, false, false, false, false, false, false, false, false, false, false, false, false, false, false, false, false, false, false] rfl rfl (any_of HT_.out (by kernel_rfl)) (fun _ _ _ h => h) (Or.inl ⟨by rfl, ?_⟩) ?_ ?_
                      rotate_left
                      · intro w'
                        go_simp
                        with_reducible rfl
                      rotate_left; (· (simp only [Act.put, List.setIfInBounds_toArray, List.set_cons_zero, List.set_cons_succ, i64_w, i32_w]; rfl))
                      refine pure_ (i := 7) (N := some 98) (v := ?_) (a' := ?_) #[true, true, true, true, true, false, true, true, false, false, false, false, false, false, false, false, false, false, false, false, false, false, false, false, false, false, false, false, false, false, false, false, false, false, false, false, false, false, false, false] rfl rfl (any_of HT_.out (by kernel_rfl)) (fun _ _ _ h => h) (Or.inl ⟨by rfl, ?_⟩) ?_ ?_
                      rotate_left
                      · intro w'
                        go_simp
                        with_reducible rfl
                      rotate_left; (· (simp only [Act.put, List.setIfInBounds_toArray, List.set_cons_zero, List.set_cons_succ, i64_w, i32_w]; rfl))
                      refine take_ (i := 5) (N := some 96) (v := ?_) (a' := ?_) (tf 8 32) rfl rfl (take_ofW HT_.out HW_.out (by kernel_rfl)) (fun _ _ _ h => h) (Or.inl ⟨by rfl, ?_⟩) hHeld ?_ ?_
                      rotate_left
                      · intro w' z153_
                        have hcz153_ : ∀ i, w'.cell? ⟨gb153, i, none⟩ = _ := blk_cell z153_
                        have hfz153_ := blk_frozen z153_
                        first | (refine Eq.trans (load_here (g := gb153) (ty := 41) rfl rfl z153_ (by kernel_rfl) (by kernel_rfl)) ?_; with_reducible rfl) | (go_simp; with_reducible rfl)
                      rotate_left; (· (simp only [Act.put, List.setIfInBounds_toArray, List.set_cons_zero, List.set_cons_succ, i64_w, i32_w]; rfl))
                      refine take_ (i := 8) (N := some 99) (v := ?_) (a' := ?_) (tf 9 31) rfl rfl (take_ofW HT_.out HW_.out (by kernel_rfl)) (fun _ _ _ h => h) (Or.inl ⟨by rfl, ?_⟩) hHeld ?_ ?_
                      rotate_left
                      · intro w' z153_
                        have hcz153_ : ∀ i, w'.cell? ⟨gb153, i, none⟩ = _ := blk_cell z153_
                        have hfz153_ := blk_frozen z153_
                        first | (refine Eq.trans (load_here (g := gb153) (ty := 41) rfl rfl z153_ (by kernel_rfl) (by kernel_rfl)) ?_; with_reducible rfl) | (go_simp; with_reducible rfl)
                      rotate_left; (· (simp only [Act.put, List.setIfInBounds_toArray, List.set_cons_zero, List.set_cons_succ, i64_w, i32_w]; rfl))
                      refine pure_ (i := 9) (N := some 100) (v := ?_) (a' := ?_) (tf 10 30) rfl rfl (any_of HT_.out (by kernel_rfl)) (fun _ _ _ h => h) (Or.inl ⟨by rfl, ?_⟩) ?_ ?_
                      rotate_left
                      · intro w'
                        go_simp
                        with_reducible rfl
                      rotate_left; (· (simp only [Act.put, List.setIfInBounds_toArray, List.set_cons_zero, List.set_cons_succ, i64_w, i32_w]; rfl))
                      refine pure_ (i := 10) (N := some 101) (v := ?_) (a' := ?_) (tf 11 29) rfl rfl (any_of HT_.out (by kernel_rfl)) (fun _ _ _ h => h) (Or.inl ⟨by rfl, ?_⟩) ?_ ?_
                      rotate_left
                      · intro w'
                        go_simp
                        with_reducible rfl
                      rotate_left; (· (simp only [Act.put, List.setIfInBounds_toArray, List.set_cons_zero, List.set_cons_succ, i64_w, i32_w]; rfl))
                      refine pure_ (i := 11) (N := some 102) (v := ?_) (a' := ?_) (tf 12 28) rfl rfl (any_of HT_.out (by kernel_rfl)) (fun _ _ _ h => h) (Or.inl ⟨by rfl, ?_⟩) ?_ ?_
                      rotate_left
                      · intro w'
                        go_simp
                        with_reducible rfl
                      rotate_left; (· (simp only [Act.put, List.setIfInBounds_toArray, List.set_cons_zero, List.set_cons_succ, i64_w, i32_w]; rfl))
                      refine pure_ (i := 12) (N := some 103) (v := ?_) (a' := ?_) (tf 13 27) rfl rfl (any_of HT_.out (by kernel_rfl)) (fun _ _ _ h => h) (Or.inl ⟨by rfl, ?_⟩) ?_ ?_
                      rotate_left
                      · intro w'
                        go_simp
                        with_reducible rfl
                      rotate_left; (· (simp only [Act.put, List.setIfInBounds_toArray, List.set_cons_zero, List.set_cons_succ, i64_w, i32_w]; rfl))
                      refine pure_ (i := 13) (N := some 104) (v := ?_) (a' := ?_) (tf 14 26) rfl rfl (any_of HT_.out (by kernel_rfl)) (fun _ _ _ h => h) (Or.inl ⟨by rfl, ?_⟩) ?_ ?_
                      rotate_left
                      · intro w'
                        go_simp
                        with_reducible rfl
                      rotate_left; (· (simp only [Act.put, List.setIfInBounds_toArray, List.set_cons_zero, List.set_cons_succ, i64_w, i32_w]; rfl))
                      refine pure_ (i := 14) (N := some 105) (v := ?_) (a' := ?_) (tf 15 25) rfl rfl (any_of HT_.out (by kernel_rfl)) (fun _ _ _ h => h) (Or.inl ⟨by rfl, ?_⟩) ?_ ?_
                      rotate_left
                      · intro w'
                        go_simp
                        with_reducible rfl
                      rotate_left; (· (simp only [Act.put, List.setIfInBounds_toArray, List.set_cons_zero, List.set_cons_succ, i64_w, i32_w]; rfl))
                      refine take_ (i := 15) (N := some 106) (v := ?_) (a' := ?_) (tf 16 24) rfl rfl (take_ofW HT_.out HW_.out (by kernel_rfl)) (fun _ _ _ h => h) (Or.inl ⟨by rfl, ?_⟩) hHeld ?_ ?_
                      rotate_left
                      · intro w' z153_
                        have hcz153_ : ∀ i, w'.cell? ⟨gb153, i, none⟩ = _ := blk_cell z153_
                        have hfz153_ := blk_frozen z153_
                        first | (refine Eq.trans (load_here (g := gb153) (ty := 41) rfl rfl z153_ (by kernel_rfl) (by kernel_rfl)) ?_; with_reducible rfl) | (go_simp; with_reducible rfl)
                      rotate_left; (· (simp only [Act.put, List.setIfInBounds_toArray, List.set_cons_zero, List.set_cons_succ, i64_w, i32_w]; rfl))
                      refine pure_ (i := 16) (N := some 107) (v := ?_) (a' := ?_) (tf 17 23) rfl rfl (any_of HT_.out (by kernel_rfl)) (fun _ _ _ h => h) (Or.inl ⟨by rfl, ?_⟩) ?_ ?_
                      rotate_left
                      · intro w'
                        go_simp
                        with_reducible rfl
                      rotate_left; (· (simp only [Act.put, List.setIfInBounds_toArray, List.set_cons_zero, List.set_cons_succ, i64_w, i32_w]; rfl))
                      refine pure_ (i := 17) (N := some 108) (v := ?_) (a' := ?_) (tf 18 22) rfl rfl (any_of HT_.out (by kernel_rfl)) (fun _ _ _ h => h) (Or.inl ⟨by rfl, ?_⟩) ?_ ?_
                      rotate_left
                      · intro w'
                        go_simp
                        with_reducible rfl
                      rotate_left; (· (simp only [Act.put, List.setIfInBounds_toArray, List.set_cons_zero, List.set_cons_succ, i64_w, i32_w]; rfl))
                      refine pure_ (i := 18) (N := some 109) (v := ?_) (a' := ?_) (tf 19 21) rfl rfl (any_of HT_.out (by kernel_rfl)) (fun _ _ _ h => h) (Or.inl ⟨by rfl, ?_⟩) ?_ ?_
                      rotate_left
                      · intro w'
                        go_simp
                        with_reducible rfl
                      rotate_left; (· (simp only [Act.put, List.setIfInBounds_toArray, List.set_cons_zero, List.set_cons_succ, i64_w, i32_w]; rfl))
                      refine pure_ (i := 19) (N := some 110) (v := ?_) (a' := ?_) (tf 20 20) rfl rfl (any_of HT_.out (by kernel_rfl)) (fun _ _ _ h => h) (Or.inl ⟨by rfl, ?_⟩) ?_ ?_
                      rotate_left
                      · intro w'
                        go_simp
                        with_reducible rfl
                      rotate_left; (· (simp only [Act.put, List.setIfInBounds_toArray, List.set_cons_zero, List.set_cons_succ, i64_w, i32_w]; rfl))
                      refine pure_ (i := 21) (N := some 112) (v := ?_) (a' := ?_) #[true, true, true, true, true, true, true, true, true, true, true, true, true, true, true, true, true, true, true, true, false, true, false, false, false, false, false, false, false, false, false, false, false, false, false, false, false, false, false, false] rfl rfl (any_of HT_.out (by kernel_rfl)) (fun _ _ _ h => h) (Or.inl ⟨by rfl, ?_⟩) ?_ ?_
                      rotate_left
                      · intro w'
                        go_simp
                        with_reducible rfl
                      rotate_left; (· (simp only [Act.put, List.setIfInBounds_toArray, List.set_cons_zero, List.set_cons_succ, i64_w, i32_w]; rfl))
                      refine take_ (i := 20) (N := some 111) (v := ?_) (a' := ?_) (tf 22 18) rfl rfl (take_ofW HT_.out HW_.out (by kernel_rfl)) (fun _ _ _ h => h) (Or.inl ⟨by rfl, ?_⟩) hHeld ?_ ?_
                      rotate_left
                      · intro w' z153_
                        have hcz153_ : ∀ i, w'.cell? ⟨gb153, i, none⟩ = _ := blk_cell z153_
                        have hfz153_ := blk_frozen z153_
                        first | (refine Eq.trans (load_here (g := gb153) (ty := 41) rfl rfl z153_ (by kernel_rfl) (by kernel_rfl)) ?_; with_reducible rfl) | (go_simp; with_reducible rfl)
                      rotate_left; (· (simp only [Act.put, List.setIfInBounds_toArray, List.set_cons_zero, List.set_cons_succ, i64_w, i32_w]; rfl))
                      refine take_ (i := 22) (N := some 113) (v := ?_) (a' := ?_) (tf 23 17) rfl rfl (take_ofW HT_.out HW_.out (by kernel_rfl)) (fun _ _ _ h => h) (Or.inl ⟨by rfl, ?_⟩) hHeld ?_ ?_
                      rotate_left
                      · intro w' z153_
                        have hcz153_ : ∀ i, w'.cell? ⟨gb153, i, none⟩ = _ := blk_cell z153_
                        have hfz153_ := blk_frozen z153_
                        first | (refine Eq.trans (load_here (g := gb153) (ty := 41) rfl rfl z153_ (by kernel_rfl) (by kernel_rfl)) ?_; with_reducible rfl) | (go_simp; with_reducible rfl)
                      rotate_left; (· (simp only [Act.put, List.setIfInBounds_toArray, List.set_cons_zero, List.set_cons_succ, i64_w, i32_w]; rfl))
                      refine one_ (i := 23) (N := some 114) (tf 24 16) rfl rfl (one_of HT_.out (by kernel_rfl)) (by decide) (fun K hK => ?_)
                      refine goes_ Try.func114 (by kernel_rfl) rfl #[.agg #[.int .i64 a0_3, .int .i64 a0_4, .slice A0_5 l0_5.length c0_5, .slice A0_6 l0_6.length c0_6]] (by rfl) rfl rfl (by (try simp only [List.map_toArray, List.map_cons, List.map_nil]); first | done | rfl | (simp only [List.length_drop, List.length_take]; rfl)) ?_
                      with_reducible refine (spec_TilesOf.calls kj2 a0_3 a0_4 _ _ l0_5 _ _ l0_6 t158 _ ?side1 ?side2 ?side3 ?side4 A36.out).mono ?_
                      (case side1 => repeat (first | exact (Kd.C_below HR0_5.out HB.out) | (with_reducible refine Kd.C_alloc ?_ _) | (with_reducible refine Kd.C_drewN ?_ _) | (with_reducible refine Kd.C_drew ?_)))
                      (case side2 => exact HC0_5.out)
                      (case side3 => repeat (first | exact (Kd.C_below HR0_6.out HB.out) | (with_reducible refine Kd.C_alloc ?_ _) | (with_reducible refine Kd.C_drewN ?_ _) | (with_reducible refine Kd.C_drew ?_)))
                      (case side4 => exact HC0_6.out)
                      rintro e w39 ⟨rfl, hb⟩
                      refine ⟨_, rfl, ?_⟩
                      have n0_ := Aside0.mk (blk_below (bx BK153.out) hb)
                      have n1_ := bs HB hb
                      clear BK153
                      clear HB
                      have BK153 := n0_
                      have HB := n1_
                      clear n0_ n1_
                      (try clear hb)
                      (try clear hb2)
                      (try clear hk)
                      (try clear hi)
                      refine hK.out _ _ BK153.out (fun hHeld => ?_)
                      clear hK K
                      refine norm_ (a' := ?_) ?_ ?_
                      rotate_left
                      · show Act.put _ (some 114) _ = _
                        simp only [Act.put, List.setIfInBounds_toArray, List.set_cons_zero, List.set_cons_succ, i64_w, i32_w]
                        rfl
                      refine pure_ (i := 24) (N := some 115) (v := ?_) (a' := ?_) (tf 25 15) rfl rfl (any_of HT_.out (by kernel_rfl)) (fun _ _ _ h => h) (Or.inl ⟨by rfl, ?_⟩) ?_ ?_
                      rotate_left
                      · intro w'
                        go_simp
                        with_reducible rfl
                      rotate_left; (· (simp only [Act.put, List.setIfInBounds_toArray, List.set_cons_zero, List.set_cons_succ, i64_w, i32_w]; rfl))
                      refine pure_ (i := 25) (N := some 116) (v := ?_) (a' := ?_) (tf 26 14) rfl rfl (any_of HT_.out (by kernel_rfl)) (fun _ _ _ h => h) (Or.inl ⟨by rfl, ?_⟩) ?_ ?_
                      rotate_left
                      · intro w'
                        go_simp
                        with_reducible rfl
                      rotate_left; (· (simp only [Act.put, List.setIfInBounds_toArray, List.set_cons_zero, List.set_cons_succ, i64_w, i32_w]; rfl))
                      refine pure_ (i := 26) (N := some 117) (v := ?_) (a' := ?_) (tf 27 13) rfl rfl (any_of HT_.out (by kernel_rfl)) (fun _ _ _ h => h) (Or.inl ⟨by rfl, ?_⟩) ?_ ?_
                      rotate_left
                      · intro w'
                        go_simp
                        with_reducible rfl
                      rotate_left; (· (simp only [Act.put, List.setIfInBounds_toArray, List.set_cons_zero, List.set_cons_succ, i64_w, i32_w]; rfl))
                      refine pure_ (i := 27) (N := some 118) (v := undef) (a' := ?_) (tf 28 12) rfl rfl (any_of HT_.out (by kernel_rfl)) (fun _ _ _ h => h) (Or.inr ⟨by rfl, rfl⟩) ?_ ?_
                      rotate_left; (· (simp only [Act.put, List.setIfInBounds_toArray, List.set_cons_zero, List.set_cons_succ, i64_w, i32_w]; rfl))
                      refine pure_ (i := 28) (N := some 119) (v := undef) (a' := ?_) (tf 29 11) rfl rfl (any_of HT_.out (by kernel_rfl)) (fun _ _ _ h => h) (Or.inr ⟨by rfl, rfl⟩) ?_ ?_
                      rotate_left; (· (simp only [Act.put, List.setIfInBounds_toArray, List.set_cons_zero, List.set_cons_succ, i64_w, i32_w]; rfl))
                      refine pure_ (i := 29) (N := some 120) (v := undef) (a' := ?_) (tf 30 10) rfl rfl (any_of HT_.out (by kernel_rfl)) (fun _ _ _ h => h) (Or.inr ⟨by rfl, rfl⟩) ?_ ?_
                      rotate_left; (· (simp only [Act.put, List.setIfInBounds_toArray, List.set_cons_zero, List.set_cons_succ, i64_w, i32_w]; rfl))
                      refine pure_ (i := 30) (N := some 121) (v := undef) (a' := ?_) (tf 31 9) rfl rfl (any_of HT_.out (by kernel_rfl)) (fun _ _ _ h => h) (Or.inr ⟨by rfl, rfl⟩) ?_ ?_
                      rotate_left; (· (simp only [Act.put, List.setIfInBounds_toArray, List.set_cons_zero, List.set_cons_succ, i64_w, i32_w]; rfl))
                      refine pure_ (i := 31) (N := some 122) (v := undef) (a' := ?_) (tf 32 8) rfl rfl (any_of HT_.out (by kernel_rfl)) (fun _ _ _ h => h) (Or.inr ⟨by rfl, rfl⟩) ?_ ?_
                      rotate_left; (· (simp only [Act.put, List.setIfInBounds_toArray, List.set_cons_zero, List.set_cons_succ, i64_w, i32_w]; rfl))
                      refine pure_ (i := 32) (N := some 123) (v := undef) (a' := ?_) (tf 33 7) rfl rfl (any_of HT_.out (by kernel_rfl)) (fun _ _ _ h => h) (Or.inr ⟨by rfl, rfl⟩) ?_ ?_
                      rotate_left; (· (simp only [Act.put, List.setIfInBounds_toArray, List.set_cons_zero, List.set_cons_succ, i64_w, i32_w]; rfl))
                      refine pure_ (i := 33) (N := some 124) (v := undef) (a' := ?_) (tf 34 6) rfl rfl (any_of HT_.out (by kernel_rfl)) (fun _ _ _ h => h) (Or.inr ⟨by rfl, rfl⟩) ?_ ?_
                      rotate_left; (· (simp only [Act.put, List.setIfInBounds_toArray, List.set_cons_zero, List.set_cons_succ, i64_w, i32_w]; rfl))
                      refine pure_ (i := 34) (N := some 125) (v := undef) (a' := ?_) (tf 35 5) rfl rfl (any_of HT_.out (by kernel_rfl)) (fun _ _ _ h => h) (Or.inr ⟨by rfl, rfl⟩) ?_ ?_
                      rotate_left; (· (simp only [Act.put, List.setIfInBounds_toArray, List.set_cons_zero, List.set_cons_succ, i64_w, i32_w]; rfl))
                      refine pure_ (i := 35) (N := some 126) (v := undef) (a' := ?_) (tf 36 4) rfl rfl (any_of HT_.out (by kernel_rfl)) (fun _ _ _ h => h) (Or.inr ⟨by rfl, rfl⟩) ?_ ?_
                      rotate_left; (· (simp only [Act.put, List.setIfInBounds_toArray, List.set_cons_zero, List.set_cons_succ, i64_w, i32_w]; rfl))
                      refine pure_ (i := 36) (N := some 127) (v := undef) (a' := ?_) (tf 37 3) rfl rfl (any_of HT_.out (by kernel_rfl)) (fun _ _ _ h => h) (Or.inr ⟨by rfl, rfl⟩) ?_ ?_
                      rotate_left; (· (simp only [Act.put, List.setIfInBounds_toArray, List.set_cons_zero, List.set_cons_succ, i64_w, i32_w]; rfl))
                      refine pure_ (i := 37) (N := some 128) (v := undef) (a' := ?_) (tf 38 2) rfl rfl (any_of HT_.out (by kernel_rfl)) (fun _ _ _ h => h) (Or.inr ⟨by rfl, rfl⟩) ?_ ?_
                      rotate_left; (· (simp only [Act.put, List.setIfInBounds_toArray, List.set_cons_zero, List.set_cons_succ, i64_w, i32_w]; rfl))
                      refine pure_ (i := 38) (N := some 129) (v := undef) (a' := ?_) (tf 39 1) rfl rfl (any_of HT_.out (by kernel_rfl)) (fun _ _ _ h => h) (Or.inr ⟨by rfl, rfl⟩) ?_ ?_
                      rotate_left; (· (simp only [Act.put, List.setIfInBounds_toArray, List.set_cons_zero, List.set_cons_succ, i64_w, i32_w]; rfl))
                      refine pure_ (i := 39) (N := some 130) (v := ?_) (a' := ?_) (tf 40 0) rfl rfl (any_of HT_.out (by kernel_rfl)) (fun _ _ _ h => h) (Or.inl ⟨by rfl, ?_⟩) ?_ ?_
                      rotate_left
                      · intro w'
                        go_simp
                        with_reducible rfl
                      rotate_left; (· (simp only [Act.put, List.setIfInBounds_toArray, List.set_cons_zero, List.set_cons_succ, i64_w, i32_w]; rfl))
                      refine done_ (done_of HT_.out (by kernel_rfl)) ?_
                      try go_wp2
                      go_meet
                      case rel => exact ⟨_, (true), (by first | rfl | (simp; done) | (simp [*]; done)), H', ⟨by have := HJ2.out; first | omega | exact Nat.le_refl _⟩, ⟨by (with_reducible repeat (first | refine blk_drewN ?_ _ | refine blk_drew ?_ | refine blk_alloc ?_ _)); exact BK153.out⟩, ⟨bl⟩⟩
                    · rw [if_neg c37] at H
                      have c37b0 : decide (t158 ≤ a0_12) = false := decide_eq_false c37
                      clear c37
                      by_cases c40 : a0_1 = true
                      · subst c40
                        rw [if_pos rfl] at H
                        have H' := Aside0.mk H
                        clear H
                        as_aux_lemma =>
                        try go_wp2
                        have n0_ := Aside0.mk (blk_drew BK153.out)
                        have n1_ := Aside0.mk (below_drew1 HB.out)
                        clear BK153
                        clear HB
                        have BK153 := n0_
                        have HB := n1_
                        clear n0_ n1_
                        refine start_ (n := 40) (S := fun w' => w'.heap[gb153]? = some (.cells #[.bool true, .bool true, .bool a0_2, .int .i64 a0_3, .int .i64 a0_4, .slice A0_5 l0_5.length c0_5, .slice A0_6 l0_6.length c0_6, .int .i64 a0_7, .bool a0_8, .bool a0_9, .bool a0_10, .int .i64 a0_11, .int .i64 a0_12, .int .i64 a0_13, .int .i64 a0_14, .string a0_15, .int .i64 a0_16, .int .i64 a0_17, .string a0_18] 41 (0, 0))) (ds := []) (tf 0 40) (by kernel_rfl) rfl rfl BK153.out (fun hHeld => ?_); refine with_tabW spec_DecOk.tab5 spec_DecOk.bits5 (fun HT_ HW_ => ?_)
                        generalize wc.drew = w41 at BK153 HB hHeld ⊢
                        refine pure_ (i := 0) (N := some 91) (v := ?_) (a' := ?_) (tf 1 39) rfl rfl (any_of HT_.out (by kernel_rfl)) (fun _ _ _ h => h) (Or.inl ⟨by rfl, ?_⟩) ?_ ?_
                        rotate_left
                        · intro w'
                          go_simp
                          with_reducible rfl
                        rotate_left; (· (simp only [Act.put, List.setIfInBounds_toArray, List.set_cons_zero, List.set_cons_succ, i64_w, i32_w]; rfl))
                        refine take_ (i := 1) (N := some 92) (v := ?_) (a' := ?_) (tf 2 38) rfl rfl (take_ofW HT_.out HW_.out (by kernel_rfl)) (fun _ _ _ h => h) (Or.inl ⟨by rfl, ?_⟩) hHeld ?_ ?_
                        rotate_left
                        · intro w' z153_
                          have hcz153_ : ∀ i, w'.cell? ⟨gb153, i, none⟩ = _ := blk_cell z153_
                          have hfz153_ := blk_frozen z153_
                          first | (refine Eq.trans (load_here (g := gb153) (ty := 41) rfl rfl z153_ (by kernel_rfl) (by kernel_rfl)) ?_; with_reducible rfl) | (go_simp; with_reducible rfl)
                        rotate_left; (· (simp only [Act.put, List.setIfInBounds_toArray, List.set_cons_zero, List.set_cons_succ, i64_w, i32_w]; rfl))
                        refine pure_ (i := 2) (N := some 93) (v := ?_) (a' := ?_) (tf 3 37) rfl rfl (any_of HT_.out (by kernel_rfl)) (fun _ _ _ h => h) (Or.inl ⟨by rfl, ?_⟩) ?_ ?_
                        rotate_left
                        · intro w'
                          go_simp
                          with_reducible rfl
                        rotate_left; (· (simp only [Act.put, List.setIfInBounds_toArray, List.set_cons_zero, List.set_cons_succ, i64_w, i32_w]; rfl))
                        refine pure_ (i := 3) (N := some 94) (v := ?_) (a' := ?_) (tf 4 36) rfl rfl (any_of HT_.out (by kernel_rfl)) (fun _ _ _ h => h) (Or.inl ⟨by rfl, ?_⟩) ?_ ?_
                        rotate_left
                        · intro w'
                          go_simp
                          with_reducible rfl
                        rotate_left; (· (simp only [Act.put, List.setIfInBounds_toArray, List.set_cons_zero, List.set_cons_succ, i64_w, i32_w]; rfl))
                        refine pure_ (i := 4) (N := some 95) (v := ?_) (a' := ?_) (tf 5 35) rfl rfl (any_of HT_.out (by kernel_rfl)) (fun _ _ _ h => h) (Or.inl ⟨by rfl, ?_⟩) ?_ ?_
                        rotate_left
                        · intro w'
                          go_simp
                          with_reducible rfl
                        rotate_left; (· (simp only [Act.put, List.setIfInBounds_toArray, List.set_cons_zero, List.set_cons_succ, i64_w, i32_w]; rfl))
                        refine pure_ (i := 6) (N := some 97) (v := ?_) (a' := ?_) #[true, true, true, true, true, false, true, false, false, false, false, false, false, false, false, false, false, false, false, false, false, false, false, false, false, false, false, false, false, false, false, false, false, false, false, false, false, false, false, false] rfl rfl (any_of HT_.out (by kernel_rfl)) (fun _ _ _ h => h) (Or.inl ⟨by rfl, ?_⟩) ?_ ?_
                        rotate_left
                        · intro w'
                          go_simp
                          with_reducible rfl
                        rotate_left; (· (simp only [Act.put, List.setIfInBounds_toArray, List.set_cons_zero, List.set_cons_succ, i64_w, i32_w]; rfl))
                        refine pure_ (i := 7) (N := some 98) (v := ?_) (a' := ?_) #[true, true, true, true, true, false, true, true, false, false, false, false, false, false, false, false, false, false, false, false, false, false, false, false, false, false, false, false, false, false, false, false, false, false, false, false, false, false, false, false] rfl rfl (any_of HT_.out (by kernel_rfl)) (fun _ _ _ h => h) (Or.inl ⟨by rfl, ?_⟩) ?_ ?_
                        rotate_left
                        · intro w'
                          go_simp
                          with_reducible rfl
                        rotate_left; (· (simp only [Act.put, List.setIfInBounds_toArray, List.set_cons_zero, List.set_cons_succ, i64_w, i32_w]; rfl))
                        refine take_ (i := 5) (N := some 96) (v := ?_) (a' := ?_) (tf 8 32) rfl rfl (take_ofW HT_.out HW_.out (by kernel_rfl)) (fun _ _ _ h => h) (Or.inl ⟨by rfl, ?_⟩) hHeld ?_ ?_
                        rotate_left
                        · intro w' z153_
                          have hcz153_ : ∀ i, w'.cell? ⟨gb153, i, none⟩ = _ := blk_cell z153_
                          have hfz153_ := blk_frozen z153_
                          first | (refine Eq.trans (load_here (g := gb153) (ty := 41) rfl rfl z153_ (by kernel_rfl) (by kernel_rfl)) ?_; with_reducible rfl) | (go_simp; with_reducible rfl)
                        rotate_left; (· (simp only [Act.put, List.setIfInBounds_toArray, List.set_cons_zero, List.set_cons_succ, i64_w, i32_w]; rfl))
                        refine take_ (i := 8) (N := some 99) (v := ?_) (a' := ?_) (tf 9 31) rfl rfl (take_ofW HT_.out HW_.out (by kernel_rfl)) (fun _ _ _ h => h) (Or.inl ⟨by rfl, ?_⟩) hHeld ?_ ?_
                        rotate_left
                        · intro w' z153_
                          have hcz153_ : ∀ i, w'.cell? ⟨gb153, i, none⟩ = _ := blk_cell z153_
                          have hfz153_ := blk_frozen z153_
                          first | (refine Eq.trans (load_here (g := gb153) (ty := 41) rfl rfl z153_ (by kernel_rfl) (by kernel_rfl)) ?_; with_reducible rfl) | (go_simp; with_reducible rfl)
                        rotate_left; (· (simp only [Act.put, List.setIfInBounds_toArray, List.set_cons_zero, List.set_cons_succ, i64_w, i32_w]; rfl))
                        refine pure_ (i := 9) (N := some 100) (v := ?_) (a' := ?_) (tf 10 30) rfl rfl (any_of HT_.out (by kernel_rfl)) (fun _ _ _ h => h) (Or.inl ⟨by rfl, ?_⟩) ?_ ?_
                        rotate_left
                        · intro w'
                          go_simp
                          with_reducible rfl
                        rotate_left; (· (simp only [Act.put, List.setIfInBounds_toArray, List.set_cons_zero, List.set_cons_succ, i64_w, i32_w]; rfl))
                        refine pure_ (i := 10) (N := some 101) (v := ?_) (a' := ?_) (tf 11 29) rfl rfl (any_of HT_.out (by kernel_rfl)) (fun _ _ _ h => h) (Or.inl ⟨by rfl, ?_⟩) ?_ ?_
                        rotate_left
                        · intro w'
                          go_simp
                          with_reducible rfl
                        rotate_left; (· (simp only [Act.put, List.setIfInBounds_toArray, List.set_cons_zero, List.set_cons_succ, i64_w, i32_w]; rfl))
                        refine pure_ (i := 11) (N := some 102) (v := ?_) (a' := ?_) (tf 12 28) rfl rfl (any_of HT_.out (by kernel_rfl)) (fun _ _ _ h => h) (Or.inl ⟨by rfl, ?_⟩) ?_ ?_
                        rotate_left
                        · intro w'
                          go_simp
                          with_reducible rfl
                        rotate_left; (· (simp only [Act.put, List.setIfInBounds_toArray, List.set_cons_zero, List.set_cons_succ, i64_w, i32_w]; rfl))
                        refine pure_ (i := 12) (N := some 103) (v := ?_) (a' := ?_) (tf 13 27) rfl rfl (any_of HT_.out (by kernel_rfl)) (fun _ _ _ h => h) (Or.inl ⟨by rfl, ?_⟩) ?_ ?_
                        rotate_left
                        · intro w'
                          go_simp
                          with_reducible rfl
                        rotate_left; (· (simp only [Act.put, List.setIfInBounds_toArray, List.set_cons_zero, List.set_cons_succ, i64_w, i32_w]; rfl))
                        refine pure_ (i := 13) (N := some 104) (v := ?_) (a' := ?_) (tf 14 26) rfl rfl (any_of HT_.out (by kernel_rfl)) (fun _ _ _ h => h) (Or.inl ⟨by rfl, ?_⟩) ?_ ?_
                        rotate_left
                        · intro w'
                          go_simp
                          with_reducible rfl
                        rotate_left; (· (simp only [Act.put, List.setIfInBounds_toArray, List.set_cons_zero, List.set_cons_succ, i64_w, i32_w]; rfl))
                        refine pure_ (i := 14) (N := some 105) (v := ?_) (a' := ?_) (tf 15 25) rfl rfl (any_of HT_.out (by kernel_rfl)) (fun _ _ _ h => h) (Or.inl ⟨by rfl, ?_⟩) ?_ ?_
                        rotate_left
                        · intro w'
                          go_simp
                          with_reducible rfl
                        rotate_left; (· (simp only [Act.put, List.setIfInBounds_toArray, List.set_cons_zero, List.set_cons_succ, i64_w, i32_w]; rfl))
                        refine take_ (i := 15) (N := some 106) (v := ?_) (a' := ?_) (tf 16 24) rfl rfl (take_ofW HT_.out HW_.out (by kernel_rfl)) (fun _ _ _ h => h) (Or.inl ⟨by rfl, ?_⟩) hHeld ?_ ?_
                        rotate_left
                        · intro w' z153_
                          have hcz153_ : ∀ i, w'.cell? ⟨gb153, i, none⟩ = _ := blk_cell z153_
                          have hfz153_ := blk_frozen z153_
                          first | (refine Eq.trans (load_here (g := gb153) (ty := 41) rfl rfl z153_ (by kernel_rfl) (by kernel_rfl)) ?_; with_reducible rfl) | (go_simp; with_reducible rfl)
                        rotate_left; (· (simp only [Act.put, List.setIfInBounds_toArray, List.set_cons_zero, List.set_cons_succ, i64_w, i32_w]; rfl))
                        refine pure_ (i := 16) (N := some 107) (v := ?_) (a' := ?_) (tf 17 23) rfl rfl (any_of HT_.out (by kernel_rfl)) (fun _ _ _ h => h) (Or.inl ⟨by rfl, ?_⟩) ?_ ?_
                        rotate_left
                        · intro w'
                          go_simp
                          with_reducible rfl
                        rotate_left; (· (simp only [Act.put, List.setIfInBounds_toArray, List.set_cons_zero, List.set_cons_succ, i64_w, i32_w]; rfl))
                        refine pure_ (i := 17) (N := some 108) (v := ?_) (a' := ?_) (tf 18 22) rfl rfl (any_of HT_.out (by kernel_rfl)) (fun _ _ _ h => h) (Or.inl ⟨by rfl, ?_⟩) ?_ ?_
                        rotate_left
                        · intro w'
                          go_simp
                          with_reducible rfl
                        rotate_left; (· (simp only [Act.put, List.setIfInBounds_toArray, List.set_cons_zero, List.set_cons_succ, i64_w, i32_w]; rfl))
                        refine pure_ (i := 18) (N := some 109) (v := ?_) (a' := ?_) (tf 19 21) rfl rfl (any_of HT_.out (by kernel_rfl)) (fun _ _ _ h => h) (Or.inl ⟨by rfl, ?_⟩) ?_ ?_
                        rotate_left
                        · intro w'
                          go_simp
                          with_reducible rfl
                        rotate_left; (· (simp only [Act.put, List.setIfInBounds_toArray, List.set_cons_zero, List.set_cons_succ, i64_w, i32_w]; rfl))
                        refine pure_ (i := 19) (N := some 110) (v := ?_) (a' := ?_) (tf 20 20) rfl rfl (any_of HT_.out (by kernel_rfl)) (fun _ _ _ h => h) (Or.inl ⟨by rfl, ?_⟩) ?_ ?_
                        rotate_left
                        · intro w'
                          go_simp
                          with_reducible rfl
                        rotate_left; (· (simp only [Act.put, List.setIfInBounds_toArray, List.set_cons_zero, List.set_cons_succ, i64_w, i32_w]; rfl))
                        refine pure_ (i := 21) (N := some 112) (v := ?_) (a' := ?_) #[true, true, true, true, true, true, true, true, true, true, true, true, true, true, true, true, true, true, true, true, false, true, false, false, false, false, false, false, false, false, false, false, false, false, false, false, false, false, false, false] rfl rfl (any_of HT_.out (by kernel_rfl)) (fun _ _ _ h => h) (Or.inl ⟨by rfl, ?_⟩) ?_ ?_
                        rotate_left
                        · intro w'
                          go_simp
                          with_reducible rfl
                        rotate_left; (· (simp only [Act.put, List.setIfInBounds_toArray, List.set_cons_zero, List.set_cons_succ, i64_w, i32_w]; rfl))
                        refine take_ (i := 20) (N := some 111) (v := ?_) (a' := ?_) (tf 22 18) rfl rfl (take_ofW HT_.out HW_.out (by kernel_rfl)) (fun _ _ _ h => h) (Or.inl ⟨by rfl, ?_⟩) hHeld ?_ ?_
                        rotate_left
                        · intro w' z153_
                          have hcz153_ : ∀ i, w'.cell? ⟨gb153, i, none⟩ = _ := blk_cell z153_
                          have hfz153_ := blk_frozen z153_
                          first | (refine Eq.trans (load_here (g := gb153) (ty := 41) rfl rfl z153_ (by kernel_rfl) (by kernel_rfl)) ?_; with_reducible rfl) | (go_simp; with_reducible rfl)
                        rotate_left; (· (simp only [Act.put, List.setIfInBounds_toArray, List.set_cons_zero, List.set_cons_succ, i64_w, i32_w]; rfl))
                        refine take_ (i := 22) (N := some 113) (v := ?_) (a' := ?_) (tf 23 17) rfl rfl (take_ofW HT_.out HW_.out (by kernel_rfl)) (fun _ _ _ h => h) (Or.inl ⟨by rfl, ?_⟩) hHeld ?_ ?_
                        rotate_left
                        · intro w' z153_
                          have hcz153_ : ∀ i, w'.cell? ⟨gb153, i, none⟩ = _ := blk_cell z153_
                          have hfz153_ := blk_frozen z153_
                          first | (refine Eq.trans (load_here (g := gb153) (ty := 41) rfl rfl z153_ (by kernel_rfl) (by kernel_rfl)) ?_; with_reducible rfl) | (go_simp; with_reducible rfl)
                        rotate_left; (· (simp only [Act.put, List.setIfInBounds_toArray, List.set_cons_zero, List.set_cons_succ, i64_w, i32_w]; rfl))
                        refine one_ (i := 23) (N := some 114) (tf 24 16) rfl rfl (one_of HT_.out (by kernel_rfl)) (by decide) (fun K hK => ?_)
                        refine goes_ Try.func114 (by kernel_rfl) rfl #[.agg #[.int .i64 a0_3, .int .i64 a0_4, .slice A0_5 l0_5.length c0_5, .slice A0_6 l0_6.length c0_6]] (by rfl) rfl rfl (by (try simp only [List.map_toArray, List.map_cons, List.map_nil]); first | done | rfl | (simp only [List.length_drop, List.length_take]; rfl)) ?_
                        with_reducible refine (spec_TilesOf.calls kj2 a0_3 a0_4 _ _ l0_5 _ _ l0_6 t158 _ ?side1 ?side2 ?side3 ?side4 A36.out).mono ?_
                        (case side1 => repeat (first | exact (Kd.C_below HR0_5.out HB.out) | (with_reducible refine Kd.C_alloc ?_ _) | (with_reducible refine Kd.C_drewN ?_ _) | (with_reducible refine Kd.C_drew ?_)))
                        (case side2 => exact HC0_5.out)
                        (case side3 => repeat (first | exact (Kd.C_below HR0_6.out HB.out) | (with_reducible refine Kd.C_alloc ?_ _) | (with_reducible refine Kd.C_drewN ?_ _) | (with_reducible refine Kd.C_drew ?_)))
                        (case side4 => exact HC0_6.out)
                        rintro e w42 ⟨rfl, hb⟩
                        refine ⟨_, rfl, ?_⟩
                        have n0_ := Aside0.mk (blk_below (bx BK153.out) hb)
                        have n1_ := bs HB hb
                        clear BK153
                        clear HB
                        have BK153 := n0_
                        have HB := n1_
                        clear n0_ n1_
                        (try clear hb)
                        (try clear hb2)
                        (try clear hk)
                        (try clear hi)
                        refine hK.out _ _ BK153.out (fun hHeld => ?_)
                        clear hK K
                        refine norm_ (a' := ?_) ?_ ?_
                        rotate_left
                        · show Act.put _ (some 114) _ = _
                          simp only [Act.put, List.setIfInBounds_toArray, List.set_cons_zero, List.set_cons_succ, i64_w, i32_w]
                          rfl
                        refine pure_ (i := 24) (N := some 115) (v := ?_) (a' := ?_) (tf 25 15) rfl rfl (any_of HT_.out (by kernel_rfl)) (fun _ _ _ h => h) (Or.inl ⟨by rfl, ?_⟩) ?_ ?_
                        rotate_left
                        · intro w'
                          go_simp
                          with_reducible rfl
                        rotate_left; (· (simp only [Act.put, List.setIfInBounds_toArray, List.set_cons_zero, List.set_cons_succ, i64_w, i32_w]; rfl))
                        refine pure_ (i := 25) (N := some 116) (v := ?_) (a' := ?_) (tf 26 14) rfl rfl (any_of HT_.out (by kernel_rfl)) (fun _ _ _ h => h) (Or.inl ⟨by rfl, ?_⟩) ?_ ?_
                        rotate_left
                        · intro w'
                          go_simp
                          with_reducible rfl
                        rotate_left; (· (simp only [Act.put, List.setIfInBounds_toArray, List.set_cons_zero, List.set_cons_succ, i64_w, i32_w]; rfl))
                        refine pure_ (i := 26) (N := some 117) (v := ?_) (a' := ?_) (tf 27 13) rfl rfl (any_of HT_.out (by kernel_rfl)) (fun _ _ _ h => h) (Or.inl ⟨by rfl, ?_⟩) ?_ ?_
                        rotate_left
                        · intro w'
                          go_simp
                          with_reducible rfl
                        rotate_left; (· (simp only [Act.put, List.setIfInBounds_toArray, List.set_cons_zero, List.set_cons_succ, i64_w, i32_w]; rfl))
                        refine pure_ (i := 27) (N := some 118) (v := ?_) (a' := ?_) (tf 28 12) rfl rfl (any_of HT_.out (by kernel_rfl)) (fun _ _ _ h => h) (Or.inl ⟨by rfl, ?_⟩) ?_ ?_
                        rotate_left
                        · intro w'
                          go_simp
                          with_reducible rfl
                        rotate_left; (· (simp only [Act.put, List.setIfInBounds_toArray, List.set_cons_zero, List.set_cons_succ, i64_w, i32_w]; rfl))
                        refine take_ (i := 28) (N := some 119) (v := ?_) (a' := ?_) (tf 29 11) rfl rfl (take_ofW HT_.out HW_.out (by kernel_rfl)) (fun _ _ _ h => h) (Or.inl ⟨by rfl, ?_⟩) hHeld ?_ ?_
                        rotate_left
                        · intro w' z153_
                          have hcz153_ : ∀ i, w'.cell? ⟨gb153, i, none⟩ = _ := blk_cell z153_
                          have hfz153_ := blk_frozen z153_
                          first | (refine Eq.trans (load_here (g := gb153) (ty := 41) rfl rfl z153_ (by kernel_rfl) (by kernel_rfl)) ?_; with_reducible rfl) | (go_simp; with_reducible rfl)
                        rotate_left; (· (simp only [Act.put, List.setIfInBounds_toArray, List.set_cons_zero, List.set_cons_succ, i64_w, i32_w]; rfl))
                        refine pure_ (i := 29) (N := some 120) (v := ?_) (a' := ?_) (tf 30 10) rfl rfl (any_of HT_.out (by kernel_rfl)) (fun _ _ _ h => h) (Or.inl ⟨by rfl, ?_⟩) ?_ ?_
                        rotate_left
                        · intro w'
                          go_simp
                          with_reducible rfl
                        rotate_left; (· (simp only [Act.put, List.setIfInBounds_toArray, List.set_cons_zero, List.set_cons_succ, i64_w, i32_w]; rfl))
                        refine pure_ (i := 30) (N := some 121) (v := ?_) (a' := ?_) (tf 31 9) rfl rfl (any_of HT_.out (by kernel_rfl)) (fun _ _ _ h => h) (Or.inl ⟨by rfl, ?_⟩) ?_ ?_
                        rotate_left
                        · intro w'
                          go_simp
                          with_reducible rfl
                        rotate_left; (· (simp only [Act.put, List.setIfInBounds_toArray, List.set_cons_zero, List.set_cons_succ, i64_w, i32_w]; rfl))
                        refine pure_ (i := 31) (N := some 122) (v := undef) (a' := ?_) (tf 32 8) rfl rfl (any_of HT_.out (by kernel_rfl)) (fun _ _ _ h => h) (Or.inr ⟨by rfl, rfl⟩) ?_ ?_
                        rotate_left; (· (simp only [Act.put, List.setIfInBounds_toArray, List.set_cons_zero, List.set_cons_succ, i64_w, i32_w]; rfl))
                        refine pure_ (i := 32) (N := some 123) (v := undef) (a' := ?_) (tf 33 7) rfl rfl (any_of HT_.out (by kernel_rfl)) (fun _ _ _ h => h) (Or.inr ⟨by rfl, rfl⟩) ?_ ?_
                        rotate_left; (· (simp only [Act.put, List.setIfInBounds_toArray, List.set_cons_zero, List.set_cons_succ, i64_w, i32_w]; rfl))
                        refine pure_ (i := 33) (N := some 124) (v := undef) (a' := ?_) (tf 34 6) rfl rfl (any_of HT_.out (by kernel_rfl)) (fun _ _ _ h => h) (Or.inr ⟨by rfl, rfl⟩) ?_ ?_
                        rotate_left; (· (simp only [Act.put, List.setIfInBounds_toArray, List.set_cons_zero, List.set_cons_succ, i64_w, i32_w]; rfl))
                        refine pure_ (i := 34) (N := some 125) (v := undef) (a' := ?_) (tf 35 5) rfl rfl (any_of HT_.out (by kernel_rfl)) (fun _ _ _ h => h) (Or.inr ⟨by rfl, rfl⟩) ?_ ?_
                        rotate_left; (· (simp only [Act.put, List.setIfInBounds_toArray, List.set_cons_zero, List.set_cons_succ, i64_w, i32_w]; rfl))
                        refine pure_ (i := 35) (N := some 126) (v := undef) (a' := ?_) (tf 36 4) rfl rfl (any_of HT_.out (by kernel_rfl)) (fun _ _ _ h => h) (Or.inr ⟨by rfl, rfl⟩) ?_ ?_
                        rotate_left; (· (simp only [Act.put, List.setIfInBounds_toArray, List.set_cons_zero, List.set_cons_succ, i64_w, i32_w]; rfl))
                        refine pure_ (i := 36) (N := some 127) (v := undef) (a' := ?_) (tf 37 3) rfl rfl (any_of HT_.out (by kernel_rfl)) (fun _ _ _ h => h) (Or.inr ⟨by rfl, rfl⟩) ?_ ?_
                        rotate_left; (· (simp only [Act.put, List.setIfInBounds_toArray, List.set_cons_zero, List.set_cons_succ, i64_w, i32_w]; rfl))
                        refine pure_ (i := 37) (N := some 128) (v := undef) (a' := ?_) (tf 38 2) rfl rfl (any_of HT_.out (by kernel_rfl)) (fun _ _ _ h => h) (Or.inr ⟨by rfl, rfl⟩) ?_ ?_
                        rotate_left; (· (simp only [Act.put, List.setIfInBounds_toArray, List.set_cons_zero, List.set_cons_succ, i64_w, i32_w]; rfl))
                        refine pure_ (i := 38) (N := some 129) (v := ?_) (a' := ?_) (tf 39 1) rfl rfl (any_of HT_.out (by kernel_rfl)) (fun _ _ _ h => h) (Or.inl ⟨by rfl, ?_⟩) ?_ ?_
                        rotate_left
                        · intro w'
                          go_simp
                          with_reducible rfl
                        rotate_left; (· (simp only [Act.put, List.setIfInBounds_toArray, List.set_cons_zero, List.set_cons_succ, i64_w, i32_w]; rfl))
                        refine pure_ (i := 39) (N := some 130) (v := ?_) (a' := ?_) (tf 40 0) rfl rfl (any_of HT_.out (by kernel_rfl)) (fun _ _ _ h => h) (Or.inl ⟨by rfl, ?_⟩) ?_ ?_
                        rotate_left
                        · intro w'
                          go_simp
                          with_reducible rfl
                        rotate_left; (· (simp only [Act.put, List.setIfInBounds_toArray, List.set_cons_zero, List.set_cons_succ, i64_w, i32_w]; rfl))
                        refine done_ (done_of HT_.out (by kernel_rfl)) ?_
                        try go_wp2
                        go_meet
                        case rel => exact ⟨_, (false), (by first | rfl | (simp; done) | (simp [*]; done)), H', ⟨by have := HJ2.out; first | omega | exact Nat.le_refl _⟩, ⟨by (with_reducible repeat (first | refine blk_drewN ?_ _ | refine blk_drew ?_ | refine blk_alloc ?_ _)); exact BK153.out⟩, ⟨bl⟩⟩
                      · replace c40 := Bool.eq_false_iff.mpr c40
                        subst c40
                        have H1 : (if a0_12 > 0 then (spec_DecOk.j1 kj2 true true false a0_2 a0_3 a0_4 l0_5 l0_6 a0_7 a0_8 a0_9 a0_10 a0_11 a0_12 a0_13 a0_14 a0_15 a0_16 a0_17 a0_18) else (spec_DecOk.j1 kj2 a0_2 true false a0_2 a0_3 a0_4 l0_5 l0_6 a0_7 a0_8 a0_9 a0_10 a0_11 a0_12 a0_13 a0_14 a0_15 a0_16 a0_17 a0_18)) = some r := by rw [if_neg (show ¬ (false = true) by decide)] at H; exact H
                        clear H
                        have H := H1
                        clear H1
                        by_cases c43 : a0_12 > 0
                        · rw [if_pos c43] at H
                          have c43b0 : decide (0 < a0_12) = true := decide_eq_true c43
                          clear c43
                          have H' := Aside0.mk H
                          clear H
                          as_aux_lemma =>
                          try go_wp2
                          have n0_ := Aside0.mk (blk_drew BK153.out)
                          have n1_ := Aside0.mk (below_drew1 HB.out)
                          clear BK153
                          clear HB
                          have BK153 := n0_
                          have HB := n1_
                          clear n0_ n1_
                          refine start_ (n := 40) (S := fun w' => w'.heap[gb153]? = some (.cells #[.bool true, .bool false, .bool a0_2, .int .i64 a0_3, .int .i64 a0_4, .slice A0_5 l0_5.length c0_5, .slice A0_6 l0_6.length c0_6, .int .i64 a0_7, .bool a0_8, .bool a0_9, .bool a0_10, .int .i64 a0_11, .int .i64 a0_12, .int .i64 a0_13, .int .i64 a0_14, .string a0_15, .int .i64 a0_16, .int .i64 a0_17, .string a0_18] 41 (0, 0))) (ds := []) (tf 0 40) (by kernel_rfl) rfl rfl BK153.out (fun hHeld => ?_); refine with_tabW spec_DecOk.tab5 spec_DecOk.bits5 (fun HT_ HW_ => ?_)
                          generalize wc.drew = w44 at BK153 HB hHeld ⊢
                          refine pure_ (i := 0) (N := some 91) (v := ?_) (a' := ?_) (tf 1 39) rfl rfl (any_of HT_.out (by kernel_rfl)) (fun _ _ _ h => h) (Or.inl ⟨by rfl, ?_⟩) ?_ ?_
                          rotate_left
                          · intro w'
                            go_simp
                            with_reducible rfl
                          rotate_left; (· (simp only [Act.put, List.setIfInBounds_toArray, List.set_cons_zero, List.set_cons_succ, i64_w, i32_w]; rfl))
                          refine take_ (i := 1) (N := some 92) (v := ?_) (a' := ?_) (tf 2 38) rfl rfl (take_ofW HT_.out HW_.out (by kernel_rfl)) (fun _ _ _ h => h) (Or.inl ⟨by rfl, ?_⟩) hHeld ?_ ?_
                          rotate_left
                          · intro w' z153_
                            have hcz153_ : ∀ i, w'.cell? ⟨gb153, i, none⟩ = _ := blk_cell z153_
                            have hfz153_ := blk_frozen z153_
                            first | (refine Eq.trans (load_here (g := gb153) (ty := 41) rfl rfl z153_ (by kernel_rfl) (by kernel_rfl)) ?_; with_reducible rfl) | (go_simp; with_reducible rfl)
                          rotate_left; (· (simp only [Act.put, List.setIfInBounds_toArray, List.set_cons_zero, List.set_cons_succ, i64_w, i32_w]; rfl))
                          refine pure_ (i := 2) (N := some 93) (v := ?_) (a' := ?_) (tf 3 37) rfl rfl (any_of HT_.out (by kernel_rfl)) (fun _ _ _ h => h) (Or.inl ⟨by rfl, ?_⟩) ?_ ?_
                          rotate_left
                          · intro w'
                            go_simp
                            with_reducible rfl
                          rotate_left; (· (simp only [Act.put, List.setIfInBounds_toArray, List.set_cons_zero, List.set_cons_succ, i64_w, i32_w]; rfl))
                          refine pure_ (i := 3) (N := some 94) (v := ?_) (a' := ?_) (tf 4 36) rfl rfl (any_of HT_.out (by kernel_rfl)) (fun _ _ _ h => h) (Or.inl ⟨by rfl, ?_⟩) ?_ ?_
                          rotate_left
                          · intro w'
                            go_simp
                            with_reducible rfl
                          rotate_left; (· (simp only [Act.put, List.setIfInBounds_toArray, List.set_cons_zero, List.set_cons_succ, i64_w, i32_w]; rfl))
                          refine pure_ (i := 4) (N := some 95) (v := ?_) (a' := ?_) (tf 5 35) rfl rfl (any_of HT_.out (by kernel_rfl)) (fun _ _ _ h => h) (Or.inl ⟨by rfl, ?_⟩) ?_ ?_
                          rotate_left
                          · intro w'
                            go_simp
                            with_reducible rfl
                          rotate_left; (· (simp only [Act.put, List.setIfInBounds_toArray, List.set_cons_zero, List.set_cons_succ, i64_w, i32_w]; rfl))
                          refine pure_ (i := 6) (N := some 97) (v := ?_) (a' := ?_) #[true, true, true, true, true, false, true, false, false, false, false, false, false, false, false, false, false, false, false, false, false, false, false, false, false, false, false, false, false, false, false, false, false, false, false, false, false, false, false, false] rfl rfl (any_of HT_.out (by kernel_rfl)) (fun _ _ _ h => h) (Or.inl ⟨by rfl, ?_⟩) ?_ ?_
                          rotate_left
                          · intro w'
                            go_simp
                            with_reducible rfl
                          rotate_left; (· (simp only [Act.put, List.setIfInBounds_toArray, List.set_cons_zero, List.set_cons_succ, i64_w, i32_w]; rfl))
                          refine pure_ (i := 7) (N := some 98) (v := ?_) (a' := ?_) #[true, true, true, true, true, false, true, true, false, false, false, false, false, false, false, false, false, false, false, false, false, false, false, false, false, false, false, false, false, false, false, false, false, false, false, false, false, false, false, false] rfl rfl (any_of HT_.out (by kernel_rfl)) (fun _ _ _ h => h) (Or.inl ⟨by rfl, ?_⟩) ?_ ?_
                          rotate_left
                          · intro w'
                            go_simp
                            with_reducible rfl
                          rotate_left; (· (simp only [Act.put, List.setIfInBounds_toArray, List.set_cons_zero, List.set_cons_succ, i64_w, i32_w]; rfl))
                          refine take_ (i := 5) (N := some 96) (v := ?_) (a' := ?_) (tf 8 32) rfl rfl (take_ofW HT_.out HW_.out (by kernel_rfl)) (fun _ _ _ h => h) (Or.inl ⟨by rfl, ?_⟩) hHeld ?_ ?_
                          rotate_left
                          · intro w' z153_
                            have hcz153_ : ∀ i, w'.cell? ⟨gb153, i, none⟩ = _ := blk_cell z153_
                            have hfz153_ := blk_frozen z153_
                            first | (refine Eq.trans (load_here (g := gb153) (ty := 41) rfl rfl z153_ (by kernel_rfl) (by kernel_rfl)) ?_; with_reducible rfl) | (go_simp; with_reducible rfl)
                          rotate_left; (· (simp only [Act.put, List.setIfInBounds_toArray, List.set_cons_zero, List.set_cons_succ, i64_w, i32_w]; rfl))
                          refine take_ (i := 8) (N := some 99) (v := ?_) (a' := ?_) (tf 9 31) rfl rfl (take_ofW HT_.out HW_.out (by kernel_rfl)) (fun _ _ _ h => h) (Or.inl ⟨by rfl, ?_⟩) hHeld ?_ ?_
                          rotate_left
                          · intro w' z153_
                            have hcz153_ : ∀ i, w'.cell? ⟨gb153, i, none⟩ = _ := blk_cell z153_
                            have hfz153_ := blk_frozen z153_
                            first | (refine Eq.trans (load_here (g := gb153) (ty := 41) rfl rfl z153_ (by kernel_rfl) (by kernel_rfl)) ?_; with_reducible rfl) | (go_simp; with_reducible rfl)
                          rotate_left; (· (simp only [Act.put, List.setIfInBounds_toArray, List.set_cons_zero, List.set_cons_succ, i64_w, i32_w]; rfl))
                          refine pure_ (i := 9) (N := some 100) (v := ?_) (a' := ?_) (tf 10 30) rfl rfl (any_of HT_.out (by kernel_rfl)) (fun _ _ _ h => h) (Or.inl ⟨by rfl, ?_⟩) ?_ ?_
                          rotate_left
                          · intro w'
                            go_simp
                            with_reducible rfl
                          rotate_left; (· (simp only [Act.put, List.setIfInBounds_toArray, List.set_cons_zero, List.set_cons_succ, i64_w, i32_w]; rfl))
                          refine pure_ (i := 10) (N := some 101) (v := ?_) (a' := ?_) (tf 11 29) rfl rfl (any_of HT_.out (by kernel_rfl)) (fun _ _ _ h => h) (Or.inl ⟨by rfl, ?_⟩) ?_ ?_
                          rotate_left
                          · intro w'
                            go_simp
                            with_reducible rfl
                          rotate_left; (· (simp only [Act.put, List.setIfInBounds_toArray, List.set_cons_zero, List.set_cons_succ, i64_w, i32_w]; rfl))
                          refine pure_ (i := 11) (N := some 102) (v := ?_) (a' := ?_) (tf 12 28) rfl rfl (any_of HT_.out (by kernel_rfl)) (fun _ _ _ h => h) (Or.inl ⟨by rfl, ?_⟩) ?_ ?_
                          rotate_left
                          · intro w'
                            go_simp
                            with_reducible rfl
                          rotate_left; (· (simp only [Act.put, List.setIfInBounds_toArray, List.set_cons_zero, List.set_cons_succ, i64_w, i32_w]; rfl))
                          refine pure_ (i := 12) (N := some 103) (v := ?_) (a' := ?_) (tf 13 27) rfl rfl (any_of HT_.out (by kernel_rfl)) (fun _ _ _ h => h) (Or.inl ⟨by rfl, ?_⟩) ?_ ?_
                          rotate_left
                          · intro w'
                            go_simp
                            with_reducible rfl
                          rotate_left; (· (simp only [Act.put, List.setIfInBounds_toArray, List.set_cons_zero, List.set_cons_succ, i64_w, i32_w]; rfl))
                          refine pure_ (i := 13) (N := some 104) (v := ?_) (a' := ?_) (tf 14 26) rfl rfl (any_of HT_.out (by kernel_rfl)) (fun _ _ _ h => h) (Or.inl ⟨by rfl, ?_⟩) ?_ ?_
                          rotate_left
                          · intro w'
                            go_simp
                            with_reducible rfl
                          rotate_left; (· (simp only [Act.put, List.setIfInBounds_toArray, List.set_cons_zero, List.set_cons_succ, i64_w, i32_w]; rfl))
                          refine pure_ (i := 14) (N := some 105) (v := ?_) (a' := ?_) (tf 15 25) rfl rfl (any_of HT_.out (by kernel_rfl)) (fun _ _ _ h => h) (Or.inl ⟨by rfl, ?_⟩) ?_ ?_
                          rotate_left
                          · intro w'
                            go_simp
                            with_reducible rfl
                          rotate_left; (· (simp only [Act.put, List.setIfInBounds_toArray, List.set_cons_zero, List.set_cons_succ, i64_w, i32_w]; rfl))
                          refine take_ (i := 15) (N := some 106) (v := ?_) (a' := ?_) (tf 16 24) rfl rfl (take_ofW HT_.out HW_.out (by kernel_rfl)) (fun _ _ _ h => h) (Or.inl ⟨by rfl, ?_⟩) hHeld ?_ ?_
                          rotate_left
                          · intro w' z153_
                            have hcz153_ : ∀ i, w'.cell? ⟨gb153, i, none⟩ = _ := blk_cell z153_
                            have hfz153_ := blk_frozen z153_
                            first | (refine Eq.trans (load_here (g := gb153) (ty := 41) rfl rfl z153_ (by kernel_rfl) (by kernel_rfl)) ?_; with_reducible rfl) | (go_simp; with_reducible rfl)
                          rotate_left; (· (simp only [Act.put, List.setIfInBounds_toArray, List.set_cons_zero, List.set_cons_succ, i64_w, i32_w]; rfl))
                          refine pure_ (i := 16) (N := some 107) (v := ?_) (a' := ?_) (tf 17 23) rfl rfl (any_of HT_.out (by kernel_rfl)) (fun _ _ _ h => h) (Or.inl ⟨by rfl, ?_⟩) ?_ ?_
                          rotate_left
                          · intro w'
                            go_simp
                            with_reducible rfl
                          rotate_left; (· (simp only [Act.put, List.setIfInBounds_toArray, List.set_cons_zero, List.set_cons_succ, i64_w, i32_w]; rfl))
                          refine pure_ (i := 17) (N := some 108) (v := ?_) (a' := ?_) (tf 18 22) rfl rfl (any_of HT_.out (by kernel_rfl)) (fun _ _ _ h => h) (Or.inl ⟨by rfl, ?_⟩) ?_ ?_
                          rotate_left
                          · intro w'
                            go_simp
                            with_reducible rfl
                          rotate_left; (· (simp only [Act.put, List.setIfInBounds_toArray, List.set_cons_zero, List.set_cons_succ, i64_w, i32_w]; rfl))
                          refine pure_ (i := 18) (N := some 109) (v := ?_) (a' := ?_) (tf 19 21) rfl rfl (any_of HT_.out (by kernel_rfl)) (fun _ _ _ h => h) (Or.inl ⟨by rfl, ?_⟩) ?_ ?_
                          rotate_left
                          · intro w'
                            go_simp
                            with_reducible rfl
                          rotate_left; (· (simp only [Act.put, List.setIfInBounds_toArray, List.set_cons_zero, List.set_cons_succ, i64_w, i32_w]; rfl))
                          refine pure_ (i := 19) (N := some 110) (v := ?_) (a' := ?_) (tf 20 20) rfl rfl (any_of HT_.out (by kernel_rfl)) (fun _ _ _ h => h) (Or.inl ⟨by rfl, ?_⟩) ?_ ?_
                          rotate_left
                          · intro w'
                            go_simp
                            with_reducible rfl
                          rotate_left; (· (simp only [Act.put, List.setIfInBounds_toArray, List.set_cons_zero, List.set_cons_succ, i64_w, i32_w]; rfl))
                          refine pure_ (i := 21) (N := some 112) (v := ?_) (a' := ?_) #[true, true, true, true, true, true, true, true, true, true, true, true, true, true, true, true, true, true, true, true, false, true, false, false, false, false, false, false, false, false, false, false, false, false, false, false, false, false, false, false] rfl rfl (any_of HT_.out (by kernel_rfl)) (fun _ _ _ h => h) (Or.inl ⟨by rfl, ?_⟩) ?_ ?_
                          rotate_left
                          · intro w'
                            go_simp
                            with_reducible rfl
                          rotate_left; (· (simp only [Act.put, List.setIfInBounds_toArray, List.set_cons_zero, List.set_cons_succ, i64_w, i32_w]; rfl))
                          refine take_ (i := 20) (N := some 111) (v := ?_) (a' := ?_) (tf 22 18) rfl rfl (take_ofW HT_.out HW_.out (by kernel_rfl)) (fun _ _ _ h => h) (Or.inl ⟨by rfl, ?_⟩) hHeld ?_ ?_
                          rotate_left
                          · intro w' z153_
                            have hcz153_ : ∀ i, w'.cell? ⟨gb153, i, none⟩ = _ := blk_cell z153_
                            have hfz153_ := blk_frozen z153_
                            first | (refine Eq.trans (load_here (g := gb153) (ty := 41) rfl rfl z153_ (by kernel_rfl) (by kernel_rfl)) ?_; with_reducible rfl) | (go_simp; with_reducible rfl)
                          rotate_left; (· (simp only [Act.put, List.setIfInBounds_toArray, List.set_cons_zero, List.set_cons_succ, i64_w, i32_w]; rfl))
                          refine take_ (i := 22) (N := some 113) (v := ?_) (a' := ?_) (tf 23 17) rfl rfl (take_ofW HT_.out HW_.out (by kernel_rfl)) (fun _ _ _ h => h) (Or.inl ⟨by rfl, ?_⟩) hHeld ?_ ?_
                          rotate_left
                          · intro w' z153_
                            have hcz153_ : ∀ i, w'.cell? ⟨gb153, i, none⟩ = _ := blk_cell z153_
                            have hfz153_ := blk_frozen z153_
                            first | (refine Eq.trans (load_here (g := gb153) (ty := 41) rfl rfl z153_ (by kernel_rfl) (by kernel_rfl)) ?_; with_reducible rfl) | (go_simp; with_reducible rfl)
                          rotate_left; (· (simp only [Act.put, List.setIfInBounds_toArray, List.set_cons_zero, List.set_cons_succ, i64_w, i32_w]; rfl))
                          refine one_ (i := 23) (N := some 114) (tf 24 16) rfl rfl (one_of HT_.out (by kernel_rfl)) (by decide) (fun K hK => ?_)
                          refine goes_ Try.func114 (by kernel_rfl) rfl #[.agg #[.int .i64 a0_3, .int .i64 a0_4, .slice A0_5 l0_5.length c0_5, .slice A0_6 l0_6.length c0_6]] (by rfl) rfl rfl (by (try simp only [List.map_toArray, List.map_cons, List.map_nil]); first | done | rfl | (simp only [List.length_drop, List.length_take]; rfl)) ?_
                          with_reducible refine (spec_TilesOf.calls kj2 a0_3 a0_4 _ _ l0_5 _ _ l0_6 t158 _ ?side1 ?side2 ?side3 ?side4 A36.out).mono ?_
                          (case side1 => repeat (first | exact (Kd.C_below HR0_5.out HB.out) | (with_reducible refine Kd.C_alloc ?_ _) | (with_reducible refine Kd.C_drewN ?_ _) | (with_reducible refine Kd.C_drew ?_)))
                          (case side2 => exact HC0_5.out)
                          (case side3 => repeat (first | exact (Kd.C_below HR0_6.out HB.out) | (with_reducible refine Kd.C_alloc ?_ _) | (with_reducible refine Kd.C_drewN ?_ _) | (with_reducible refine Kd.C_drew ?_)))
                          (case side4 => exact HC0_6.out)
                          rintro e w45 ⟨rfl, hb⟩
                          refine ⟨_, rfl, ?_⟩
                          have n0_ := Aside0.mk (blk_below (bx BK153.out) hb)
                          have n1_ := bs HB hb
                          clear BK153
                          clear HB
                          have BK153 := n0_
                          have HB := n1_
                          clear n0_ n1_
                          (try clear hb)
                          (try clear hb2)
                          (try clear hk)
                          (try clear hi)
                          refine hK.out _ _ BK153.out (fun hHeld => ?_)
                          clear hK K
                          refine norm_ (a' := ?_) ?_ ?_
                          rotate_left
                          · show Act.put _ (some 114) _ = _
                            simp only [Act.put, List.setIfInBounds_toArray, List.set_cons_zero, List.set_cons_succ, i64_w, i32_w]
                            rfl
                          refine pure_ (i := 24) (N := some 115) (v := ?_) (a' := ?_) (tf 25 15) rfl rfl (any_of HT_.out (by kernel_rfl)) (fun _ _ _ h => h) (Or.inl ⟨by rfl, ?_⟩) ?_ ?_
                          rotate_left
                          · intro w'
                            go_simp
                            with_reducible rfl
                          rotate_left; (· (simp only [Act.put, List.setIfInBounds_toArray, List.set_cons_zero, List.set_cons_succ, i64_w, i32_w]; rfl))
                          refine pure_ (i := 25) (N := some 116) (v := ?_) (a' := ?_) (tf 26 14) rfl rfl (any_of HT_.out (by kernel_rfl)) (fun _ _ _ h => h) (Or.inl ⟨by rfl, ?_⟩) ?_ ?_
                          rotate_left
                          · intro w'
                            go_simp
                            with_reducible rfl
                          rotate_left; (· (simp only [Act.put, List.setIfInBounds_toArray, List.set_cons_zero, List.set_cons_succ, i64_w, i32_w]; rfl))
                          refine pure_ (i := 26) (N := some 117) (v := ?_) (a' := ?_) (tf 27 13) rfl rfl (any_of HT_.out (by kernel_rfl)) (fun _ _ _ h => h) (Or.inl ⟨by rfl, ?_⟩) ?_ ?_
                          rotate_left
                          · intro w'
                            go_simp
                            with_reducible rfl
                          rotate_left; (· (simp only [Act.put, List.setIfInBounds_toArray, List.set_cons_zero, List.set_cons_succ, i64_w, i32_w]; rfl))
                          refine pure_ (i := 27) (N := some 118) (v := ?_) (a' := ?_) (tf 28 12) rfl rfl (any_of HT_.out (by kernel_rfl)) (fun _ _ _ h => h) (Or.inl ⟨by rfl, ?_⟩) ?_ ?_
                          rotate_left
                          · intro w'
                            go_simp
                            with_reducible rfl
                          rotate_left; (· (simp only [Act.put, List.setIfInBounds_toArray, List.set_cons_zero, List.set_cons_succ, i64_w, i32_w]; rfl))
                          refine take_ (i := 28) (N := some 119) (v := ?_) (a' := ?_) (tf 29 11) rfl rfl (take_ofW HT_.out HW_.out (by kernel_rfl)) (fun _ _ _ h => h) (Or.inl ⟨by rfl, ?_⟩) hHeld ?_ ?_
                          rotate_left
                          · intro w' z153_
                            have hcz153_ : ∀ i, w'.cell? ⟨gb153, i, none⟩ = _ := blk_cell z153_
                            have hfz153_ := blk_frozen z153_
                            first | (refine Eq.trans (load_here (g := gb153) (ty := 41) rfl rfl z153_ (by kernel_rfl) (by kernel_rfl)) ?_; with_reducible rfl) | (go_simp; with_reducible rfl)
                          rotate_left; (· (simp only [Act.put, List.setIfInBounds_toArray, List.set_cons_zero, List.set_cons_succ, i64_w, i32_w]; rfl))
                          refine pure_ (i := 29) (N := some 120) (v := ?_) (a' := ?_) (tf 30 10) rfl rfl (any_of HT_.out (by kernel_rfl)) (fun _ _ _ h => h) (Or.inl ⟨by rfl, ?_⟩) ?_ ?_
                          rotate_left
                          · intro w'
                            go_simp
                            with_reducible rfl
                          rotate_left; (· (simp only [Act.put, List.setIfInBounds_toArray, List.set_cons_zero, List.set_cons_succ, i64_w, i32_w]; rfl))
                          refine pure_ (i := 30) (N := some 121) (v := ?_) (a' := ?_) (tf 31 9) rfl rfl (any_of HT_.out (by kernel_rfl)) (fun _ _ _ h => h) (Or.inl ⟨by rfl, ?_⟩) ?_ ?_
                          rotate_left
                          · intro w'
                            go_simp
                            with_reducible rfl
                          rotate_left; (· (simp only [Act.put, List.setIfInBounds_toArray, List.set_cons_zero, List.set_cons_succ, i64_w, i32_w]; rfl))
                          refine pure_ (i := 31) (N := some 122) (v := ?_) (a' := ?_) (tf 32 8) rfl rfl (any_of HT_.out (by kernel_rfl)) (fun _ _ _ h => h) (Or.inl ⟨by rfl, ?_⟩) ?_ ?_
                          rotate_left
                          · intro w'
                            go_simp
                            with_reducible rfl
                          rotate_left; (· (simp only [Act.put, List.setIfInBounds_toArray, List.set_cons_zero, List.set_cons_succ, i64_w, i32_w]; rfl))
                          refine take_ (i := 32) (N := some 123) (v := ?_) (a' := ?_) (tf 33 7) rfl rfl (take_ofW HT_.out HW_.out (by kernel_rfl)) (fun _ _ _ h => h) (Or.inl ⟨by rfl, ?_⟩) hHeld ?_ ?_
                          rotate_left
                          · intro w' z153_
                            have hcz153_ : ∀ i, w'.cell? ⟨gb153, i, none⟩ = _ := blk_cell z153_
                            have hfz153_ := blk_frozen z153_
                            first | (refine Eq.trans (load_here (g := gb153) (ty := 41) rfl rfl z153_ (by kernel_rfl) (by kernel_rfl)) ?_; with_reducible rfl) | (go_simp; with_reducible rfl)
                          rotate_left; (· (simp only [Act.put, List.setIfInBounds_toArray, List.set_cons_zero, List.set_cons_succ, i64_w, i32_w]; rfl))
                          refine pure_ (i := 33) (N := some 124) (v := ?_) (a' := ?_) (tf 34 6) rfl rfl (any_of HT_.out (by kernel_rfl)) (fun _ _ _ h => h) (Or.inl ⟨by rfl, ?_⟩) ?_ ?_
                          rotate_left
                          · intro w'
                            go_simp
                            with_reducible rfl
                          rotate_left; (· (simp only [Act.put, List.setIfInBounds_toArray, List.set_cons_zero, List.set_cons_succ, i64_w, i32_w]; rfl))
                          refine pure_ (i := 34) (N := some 125) (v := ?_) (a' := ?_) (tf 35 5) rfl rfl (any_of HT_.out (by kernel_rfl)) (fun _ _ _ h => h) (Or.inl ⟨by rfl, ?_⟩) ?_ ?_
                          rotate_left
                          · intro w'
                            go_simp
                            with_reducible rfl
                          rotate_left; (· (simp only [Act.put, List.setIfInBounds_toArray, List.set_cons_zero, List.set_cons_succ, i64_w, i32_w]; rfl))
                          refine pure_ (i := 35) (N := some 126) (v := undef) (a' := ?_) (tf 36 4) rfl rfl (any_of HT_.out (by kernel_rfl)) (fun _ _ _ h => h) (Or.inr ⟨by rfl, rfl⟩) ?_ ?_
                          rotate_left; (· (simp only [Act.put, List.setIfInBounds_toArray, List.set_cons_zero, List.set_cons_succ, i64_w, i32_w]; rfl))
                          refine pure_ (i := 36) (N := some 127) (v := undef) (a' := ?_) (tf 37 3) rfl rfl (any_of HT_.out (by kernel_rfl)) (fun _ _ _ h => h) (Or.inr ⟨by rfl, rfl⟩) ?_ ?_
                          rotate_left; (· (simp only [Act.put, List.setIfInBounds_toArray, List.set_cons_zero, List.set_cons_succ, i64_w, i32_w]; rfl))
                          refine pure_ (i := 37) (N := some 128) (v := ?_) (a' := ?_) (tf 38 2) rfl rfl (any_of HT_.out (by kernel_rfl)) (fun _ _ _ h => h) (Or.inl ⟨by rfl, ?_⟩) ?_ ?_
                          rotate_left
                          · intro w'
                            go_simp
                            with_reducible rfl
                          rotate_left; (· (simp only [Act.put, List.setIfInBounds_toArray, List.set_cons_zero, List.set_cons_succ, i64_w, i32_w]; rfl))
                          refine pure_ (i := 38) (N := some 129) (v := ?_) (a' := ?_) (tf 39 1) rfl rfl (any_of HT_.out (by kernel_rfl)) (fun _ _ _ h => h) (Or.inl ⟨by rfl, ?_⟩) ?_ ?_
                          rotate_left
                          · intro w'
                            go_simp
                            with_reducible rfl
                          rotate_left; (· (simp only [Act.put, List.setIfInBounds_toArray, List.set_cons_zero, List.set_cons_succ, i64_w, i32_w]; rfl))
                          refine pure_ (i := 39) (N := some 130) (v := ?_) (a' := ?_) (tf 40 0) rfl rfl (any_of HT_.out (by kernel_rfl)) (fun _ _ _ h => h) (Or.inl ⟨by rfl, ?_⟩) ?_ ?_
                          rotate_left
                          · intro w'
                            go_simp
                            with_reducible rfl
                          rotate_left; (· (simp only [Act.put, List.setIfInBounds_toArray, List.set_cons_zero, List.set_cons_succ, i64_w, i32_w]; rfl))
                          refine done_ (done_of HT_.out (by kernel_rfl)) ?_
                          try go_wp2
                          go_meet
                          case rel => exact ⟨_, (true), (by first | rfl | (simp; done) | (simp [*]; done)), H', ⟨by have := HJ2.out; first | omega | exact Nat.le_refl _⟩, ⟨by (with_reducible repeat (first | refine blk_drewN ?_ _ | refine blk_drew ?_ | refine blk_alloc ?_ _)); exact BK153.out⟩, ⟨bl⟩⟩
                        · rw [if_neg c43] at H
                          have c43b0 : decide (0 < a0_12) = false := decide_eq_false c43
                          clear c43
                          have H' := Aside0.mk H
                          clear H
                          as_aux_lemma =>
                          try go_wp2
                          have n0_ := Aside0.mk (blk_drew BK153.out)
                          have n1_ := Aside0.mk (below_drew1 HB.out)
                          clear BK153
                          clear HB
                          have BK153 := n0_
                          have HB := n1_
                          clear n0_ n1_
                          refine start_ (n := 40) (S := fun w' => w'.heap[gb153]? = some (.cells #[.bool true, .bool false, .bool a0_2, .int .i64 a0_3, .int .i64 a0_4, .slice A0_5 l0_5.length c0_5, .slice A0_6 l0_6.length c0_6, .int .i64 a0_7, .bool a0_8, .bool a0_9, .bool a0_10, .int .i64 a0_11, .int .i64 a0_12, .int .i64 a0_13, .int .i64 a0_14, .string a0_15, .int .i64 a0_16, .int .i64 a0_17, .string a0_18] 41 (0, 0))) (ds := []) (tf 0 40) (by kernel_rfl) rfl rfl BK153.out (fun hHeld => ?_); refine with_tabW spec_DecOk.tab5 spec_DecOk.bits5 (fun HT_ HW_ => ?_)
                          generalize wc.drew = w46 at BK153 HB hHeld ⊢
                          refine pure_ (i := 0) (N := some 91) (v := ?_) (a' := ?_) (tf 1 39) rfl rfl (any_of HT_.out (by kernel_rfl)) (fun _ _ _ h => h) (Or.inl ⟨by rfl, ?_⟩) ?_ ?_
                          rotate_left
                          · intro w'
                            go_simp
                            with_reducible rfl
                          rotate_left; (· (simp only [Act.put, List.setIfInBounds_toArray, List.set_cons_zero, List.set_cons_succ, i64_w, i32_w]; rfl))
                          refine take_ (i := 1) (N := some 92) (v := ?_) (a' := ?_) (tf 2 38) rfl rfl (take_ofW HT_.out HW_.out (by kernel_rfl)) (fun _ _ _ h => h) (Or.inl ⟨by rfl, ?_⟩) hHeld ?_ ?_
                          rotate_left
                          · intro w' z153_
                            have hcz153_ : ∀ i, w'.cell? ⟨gb153, i, none⟩ = _ := blk_cell z153_
                            have hfz153_ := blk_frozen z153_
                            first | (refine Eq.trans (load_here (g := gb153) (ty := 41) rfl rfl z153_ (by kernel_rfl) (by kernel_rfl)) ?_; with_reducible rfl) | (go_simp; with_reducible rfl)
                          rotate_left; (· (simp only [Act.put, List.setIfInBounds_toArray, List.set_cons_zero, List.set_cons_succ, i64_w, i32_w]; rfl))
                          refine pure_ (i := 2) (N := some 93) (v := ?_) (a' := ?_) (tf 3 37) rfl rfl (any_of HT_.out (by kernel_rfl)) (fun _ _ _ h => h) (Or.inl ⟨by rfl, ?_⟩) ?_ ?_
                          rotate_left
                          · intro w'
                            go_simp
                            with_reducible rfl
                          rotate_left; (· (simp only [Act.put, List.setIfInBounds_toArray, List.set_cons_zero, List.set_cons_succ, i64_w, i32_w]; rfl))
                          refine pure_ (i := 3) (N := some 94) (v := ?_) (a' := ?_) (tf 4 36) rfl rfl (any_of HT_.out (by kernel_rfl)) (fun _ _ _ h => h) (Or.inl ⟨by rfl, ?_⟩) ?_ ?_
                          rotate_left
                          · intro w'
                            go_simp
                            with_reducible rfl
                          rotate_left; (· (simp only [Act.put, List.setIfInBounds_toArray, List.set_cons_zero, List.set_cons_succ, i64_w, i32_w]; rfl))
                          refine pure_ (i := 4) (N := some 95) (v := ?_) (a' := ?_) (tf 5 35) rfl rfl (any_of HT_.out (by kernel_rfl)) (fun _ _ _ h => h) (Or.inl ⟨by rfl, ?_⟩) ?_ ?_
                          rotate_left
                          · intro w'
                            go_simp
                            with_reducible rfl
                          rotate_left; (· (simp only [Act.put, List.setIfInBounds_toArray, List.set_cons_zero, List.set_cons_succ, i64_w, i32_w]; rfl))
                          refine pure_ (i := 6) (N := some 97) (v := ?_) (a' := ?_) #[true, true, true, true, true, false, true, false, false, false, false, false, false, false, false, false, false, false, false, false, false, false, false, false, false, false, false, false, false, false, false, false, false, false, false, false, false, false, false, false] rfl rfl (any_of HT_.out (by kernel_rfl)) (fun _ _ _ h => h) (Or.inl ⟨by rfl, ?_⟩) ?_ ?_
                          rotate_left
                          · intro w'
                            go_simp
                            with_reducible rfl
                          rotate_left; (· (simp only [Act.put, List.setIfInBounds_toArray, List.set_cons_zero, List.set_cons_succ, i64_w, i32_w]; rfl))
                          refine pure_ (i := 7) (N := some 98) (v := ?_) (a' := ?_) #[true, true, true, true, true, false, true, true, false, false, false, false, false, false, false, false, false, false, false, false, false, false, false, false, false, false, false, false, false, false, false, false, false, false, false, false, false, false, false, false] rfl rfl (any_of HT_.out (by kernel_rfl)) (fun _ _ _ h => h) (Or.inl ⟨by rfl, ?_⟩) ?_ ?_
                          rotate_left
                          · intro w'
                            go_simp
                            with_reducible rfl
                          rotate_left; (· (simp only [Act.put, List.setIfInBounds_toArray, List.set_cons_zero, List.set_cons_succ, i64_w, i32_w]; rfl))
                          refine take_ (i := 5) (N := some 96) (v := ?_) (a' := ?_) (tf 8 32) rfl rfl (take_ofW HT_.out HW_.out (by kernel_rfl)) (fun _ _ _ h => h) (Or.inl ⟨by rfl, ?_⟩) hHeld ?_ ?_
                          rotate_left
                          · intro w' z153_
                            have hcz153_ : ∀ i, w'.cell? ⟨gb153, i, none⟩ = _ := blk_cell z153_
                            have hfz153_ := blk_frozen z153_
                            first | (refine Eq.trans (load_here (g := gb153) (ty := 41) rfl rfl z153_ (by kernel_rfl) (by kernel_rfl)) ?_; with_reducible rfl) | (go_simp; with_reducible rfl)
                          rotate_left; (· (simp only [Act.put, List.setIfInBounds_toArray, List.set_cons_zero, List.set_cons_succ, i64_w, i32_w]; rfl))
                          refine take_ (i := 8) (N := some 99) (v := ?_) (a' := ?_) (tf 9 31) rfl rfl (take_ofW HT_.out HW_.out (by kernel_rfl)) (fun _ _ _ h => h) (Or.inl ⟨by rfl, ?_⟩) hHeld ?_ ?_
                          rotate_left
                          · intro w' z153_
                            have hcz153_ : ∀ i, w'.cell? ⟨gb153, i, none⟩ = _ := blk_cell z153_
                            have hfz153_ := blk_frozen z153_
                            first | (refine Eq.trans (load_here (g := gb153) (ty := 41) rfl rfl z153_ (by kernel_rfl) (by kernel_rfl)) ?_; with_reducible rfl) | (go_simp; with_reducible rfl)
                          rotate_left; (· (simp only [Act.put, List.setIfInBounds_toArray, List.set_cons_zero, List.set_cons_succ, i64_w, i32_w]; rfl))
                          refine pure_ (i := 9) (N := some 100) (v := ?_) (a' := ?_) (tf 10 30) rfl rfl (any_of HT_.out (by kernel_rfl)) (fun _ _ _ h => h) (Or.inl ⟨by rfl, ?_⟩) ?_ ?_
                          rotate_left
                          · intro w'
                            go_simp
                            with_reducible rfl
                          rotate_left; (· (simp only [Act.put, List.setIfInBounds_toArray, List.set_cons_zero, List.set_cons_succ, i64_w, i32_w]; rfl))
                          refine pure_ (i := 10) (N := some 101) (v := ?_) (a' := ?_) (tf 11 29) rfl rfl (any_of HT_.out (by kernel_rfl)) (fun _ _ _ h => h) (Or.inl ⟨by rfl, ?_⟩) ?_ ?_
                          rotate_left
                          · intro w'
                            go_simp
                            with_reducible rfl
                          rotate_left; (· (simp only [Act.put, List.setIfInBounds_toArray, List.set_cons_zero, List.set_cons_succ, i64_w, i32_w]; rfl))
                          refine pure_ (i := 11) (N := some 102) (v := ?_) (a' := ?_) (tf 12 28) rfl rfl (any_of HT_.out (by kernel_rfl)) (fun _ _ _ h => h) (Or.inl ⟨by rfl, ?_⟩) ?_ ?_
                          rotate_left
                          · intro w'
                            go_simp
                            with_reducible rfl
                          rotate_left; (· (simp only [Act.put, List.setIfInBounds_toArray, List.set_cons_zero, List.set_cons_succ, i64_w, i32_w]; rfl))
                          refine pure_ (i := 12) (N := some 103) (v := ?_) (a' := ?_) (tf 13 27) rfl rfl (any_of HT_.out (by kernel_rfl)) (fun _ _ _ h => h) (Or.inl ⟨by rfl, ?_⟩) ?_ ?_
                          rotate_left
                          · intro w'
                            go_simp
                            with_reducible rfl
                          rotate_left; (· (simp only [Act.put, List.setIfInBounds_toArray, List.set_cons_zero, List.set_cons_succ, i64_w, i32_w]; rfl))
                          refine pure_ (i := 13) (N := some 104) (v := ?_) (a' := ?_) (tf 14 26) rfl rfl (any_of HT_.out (by kernel_rfl)) (fun _ _ _ h => h) (Or.inl ⟨by rfl, ?_⟩) ?_ ?_
                          rotate_left
                          · intro w'
                            go_simp
                            with_reducible rfl
                          rotate_left; (· (simp only [Act.put, List.setIfInBounds_toArray, List.set_cons_zero, List.set_cons_succ, i64_w, i32_w]; rfl))
                          refine pure_ (i := 14) (N := some 105) (v := ?_) (a' := ?_) (tf 15 25) rfl rfl (any_of HT_.out (by kernel_rfl)) (fun _ _ _ h => h) (Or.inl ⟨by rfl, ?_⟩) ?_ ?_
                          rotate_left
                          · intro w'
                            go_simp
                            with_reducible rfl
                          rotate_left; (· (simp only [Act.put, List.setIfInBounds_toArray, List.set_cons_zero, List.set_cons_succ, i64_w, i32_w]; rfl))
                          refine take_ (i := 15) (N := some 106) (v := ?_) (a' := ?_) (tf 16 24) rfl rfl (take_ofW HT_.out HW_.out (by kernel_rfl)) (fun _ _ _ h => h) (Or.inl ⟨by rfl, ?_⟩) hHeld ?_ ?_
                          rotate_left
                          · intro w' z153_
                            have hcz153_ : ∀ i, w'.cell? ⟨gb153, i, none⟩ = _ := blk_cell z153_
                            have hfz153_ := blk_frozen z153_
                            first | (refine Eq.trans (load_here (g := gb153) (ty := 41) rfl rfl z153_ (by kernel_rfl) (by kernel_rfl)) ?_; with_reducible rfl) | (go_simp; with_reducible rfl)
                          rotate_left; (· (simp only [Act.put, List.setIfInBounds_toArray, List.set_cons_zero, List.set_cons_succ, i64_w, i32_w]; rfl))
                          refine pure_ (i := 16) (N := some 107) (v := ?_) (a' := ?_) (tf 17 23) rfl rfl (any_of HT_.out (by kernel_rfl)) (fun _ _ _ h => h) (Or.inl ⟨by rfl, ?_⟩) ?_ ?_
                          rotate_left
                          · intro w'
                            go_simp
                            with_reducible rfl
                          rotate_left; (· (simp only [Act.put, List.setIfInBounds_toArray, List.set_cons_zero, List.set_cons_succ, i64_w, i32_w]; rfl))
                          refine pure_ (i := 17) (N := some 108) (v := ?_) (a' := ?_) (tf 18 22) rfl rfl (any_of HT_.out (by kernel_rfl)) (fun _ _ _ h => h) (Or.inl ⟨by rfl, ?_⟩) ?_ ?_
                          rotate_left
                          · intro w'
                            go_simp
                            with_reducible rfl
                          rotate_left; (· (simp only [Act.put, List.setIfInBounds_toArray, List.set_cons_zero, List.set_cons_succ, i64_w, i32_w]; rfl))
                          refine pure_ (i := 18) (N := some 109) (v := ?_) (a' := ?_) (tf 19 21) rfl rfl (any_of HT_.out (by kernel_rfl)) (fun _ _ _ h => h) (Or.inl ⟨by rfl, ?_⟩) ?_ ?_
                          rotate_left
                          · intro w'
                            go_simp
                            with_reducible rfl
                          rotate_left; (· (simp only [Act.put, List.setIfInBounds_toArray, List.set_cons_zero, List.set_cons_succ, i64_w, i32_w]; rfl))
                          refine pure_ (i := 19) (N := some 110) (v := ?_) (a' := ?_) (tf 20 20) rfl rfl (any_of HT_.out (by kernel_rfl)) (fun _ _ _ h => h) (Or.inl ⟨by rfl, ?_⟩) ?_ ?_
                          rotate_left
                          · intro w'
                            go_simp
                            with_reducible rfl
                          rotate_left; (· (simp only [Act.put, List.setIfInBounds_toArray, List.set_cons_zero, List.set_cons_succ, i64_w, i32_w]; rfl))
                          refine pure_ (i := 21) (N := some 112) (v := ?_) (a' := ?_) #[true, true, true, true, true, true, true, true, true, true, true, true, true, true, true, true, true, true, true, true, false, true, false, false, false, false, false, false, false, false, false, false, false, false, false, false, false, false, false, false] rfl rfl (any_of HT_.out (by kernel_rfl)) (fun _ _ _ h => h) (Or.inl ⟨by rfl, ?_⟩) ?_ ?_
                          rotate_left
                          · intro w'
                            go_simp
                            with_reducible rfl
                          rotate_left; (· (simp only [Act.put, List.setIfInBounds_toArray, List.set_cons_zero, List.set_cons_succ, i64_w, i32_w]; rfl))
                          refine take_ (i := 20) (N := some 111) (v := ?_) (a' := ?_) (tf 22 18) rfl rfl (take_ofW HT_.out HW_.out (by kernel_rfl)) (fun _ _ _ h => h) (Or.inl ⟨by rfl, ?_⟩) hHeld ?_ ?_
                          rotate_left
                          · intro w' z153_
                            have hcz153_ : ∀ i, w'.cell? ⟨gb153, i, none⟩ = _ := blk_cell z153_
                            have hfz153_ := blk_frozen z153_
                            first | (refine Eq.trans (load_here (g := gb153) (ty := 41) rfl rfl z153_ (by kernel_rfl) (by kernel_rfl)) ?_; with_reducible rfl) | (go_simp; with_reducible rfl)
                          rotate_left; (· (simp only [Act.put, List.setIfInBounds_toArray, List.set_cons_zero, List.set_cons_succ, i64_w, i32_w]; rfl))
                          refine take_ (i := 22) (N := some 113) (v := ?_) (a' := ?_) (tf 23 17) rfl rfl (take_ofW HT_.out HW_.out (by kernel_rfl)) (fun _ _ _ h => h) (Or.inl ⟨by rfl, ?_⟩) hHeld ?_ ?_
                          rotate_left
                          · intro w' z153_
                            have hcz153_ : ∀ i, w'.cell? ⟨gb153, i, none⟩ = _ := blk_cell z153_
                            have hfz153_ := blk_frozen z153_
                            first | (refine Eq.trans (load_here (g := gb153) (ty := 41) rfl rfl z153_ (by kernel_rfl) (by kernel_rfl)) ?_; with_reducible rfl) | (go_simp; with_reducible rfl)
                          rotate_left; (· (simp only [Act.put, List.setIfInBounds_toArray, List.set_cons_zero, List.set_cons_succ, i64_w, i32_w]; rfl))
                          refine one_ (i := 23) (N := some 114) (tf 24 16) rfl rfl (one_of HT_.out (by kernel_rfl)) (by decide) (fun K hK => ?_)
                          refine goes_ Try.func114 (by kernel_rfl) rfl #[.agg #[.int .i64 a0_3, .int .i64 a0_4, .slice A0_5 l0_5.length c0_5, .slice A0_6 l0_6.length c0_6]] (by rfl) rfl rfl (by (try simp only [List.map_toArray, List.map_cons, List.map_nil]); first | done | rfl | (simp only [List.length_drop, List.length_take]; rfl)) ?_
                          with_reducible refine (spec_TilesOf.calls kj2 a0_3 a0_4 _ _ l0_5 _ _ l0_6 t158 _ ?side1 ?side2 ?side3 ?side4 A36.out).mono ?_
                          (case side1 => repeat (first | exact (Kd.C_below HR0_5.out HB.out) | (with_reducible refine Kd.C_alloc ?_ _) | (with_reducible refine Kd.C_drewN ?_ _) | (with_reducible refine Kd.C_drew ?_)))
                          (case side2 => exact HC0_5.out)
                          (case side3 => repeat (first | exact (Kd.C_below HR0_6.out HB.out) | (with_reducible refine Kd.C_alloc ?_ _) | (with_reducible refine Kd.C_drewN ?_ _) | (with_reducible refine Kd.C_drew ?_)))
                          (case side4 => exact HC0_6.out)
                          rintro e w47 ⟨rfl, hb⟩
                          refine ⟨_, rfl, ?_⟩
                          have n0_ := Aside0.mk (blk_below (bx BK153.out) hb)
                          have n1_ := bs HB hb
                          clear BK153
                          clear HB
                          have BK153 := n0_
                          have HB := n1_
                          clear n0_ n1_
                          (try clear hb)
                          (try clear hb2)
                          (try clear hk)
                          (try clear hi)
                          refine hK.out _ _ BK153.out (fun hHeld => ?_)
                          clear hK K
                          refine norm_ (a' := ?_) ?_ ?_
                          rotate_left
                          · show Act.put _ (some 114) _ = _
                            simp only [Act.put, List.setIfInBounds_toArray, List.set_cons_zero, List.set_cons_succ, i64_w, i32_w]
                            rfl
                          refine pure_ (i := 24) (N := some 115) (v := ?_) (a' := ?_) (tf 25 15) rfl rfl (any_of HT_.out (by kernel_rfl)) (fun _ _ _ h => h) (Or.inl ⟨by rfl, ?_⟩) ?_ ?_
                          rotate_left
                          · intro w'
                            go_simp
                            with_reducible rfl
                          rotate_left; (· (simp only [Act.put, List.setIfInBounds_toArray, List.set_cons_zero, List.set_cons_succ, i64_w, i32_w]; rfl))
                          refine pure_ (i := 25) (N := some 116) (v := ?_) (a' := ?_) (tf 26 14) rfl rfl (any_of HT_.out (by kernel_rfl)) (fun _ _ _ h => h) (Or.inl ⟨by rfl, ?_⟩) ?_ ?_
                          rotate_left
                          · intro w'
                            go_simp
                            with_reducible rfl
                          rotate_left; (· (simp only [Act.put, List.setIfInBounds_toArray, List.set_cons_zero, List.set_cons_succ, i64_w, i32_w]; rfl))
                          refine pure_ (i := 26) (N := some 117) (v := ?_) (a' := ?_) (tf 27 13) rfl rfl (any_of HT_.out (by kernel_rfl)) (fun _ _ _ h => h) (Or.inl ⟨by rfl, ?_⟩) ?_ ?_
                          rotate_left
                          · intro w'
                            go_simp
                            with_reducible rfl
                          rotate_left; (· (simp only [Act.put, List.setIfInBounds_toArray, List.set_cons_zero, List.set_cons_succ, i64_w, i32_w]; rfl))
                          refine pure_ (i := 27) (N := some 118) (v := ?_) (a' := ?_) (tf 28 12) rfl rfl (any_of HT_.out (by kernel_rfl)) (fun _ _ _ h => h) (Or.inl ⟨by rfl, ?_⟩) ?_ ?_
                          rotate_left
                          · intro w'
                            go_simp
                            with_reducible rfl
                          rotate_left; (· (simp only [Act.put, List.setIfInBounds_toArray, List.set_cons_zero, List.set_cons_succ, i64_w, i32_w]; rfl))
                          refine take_ (i := 28) (N := some 119) (v := ?_) (a' := ?_) (tf 29 11) rfl rfl (take_ofW HT_.out HW_.out (by kernel_rfl)) (fun _ _ _ h => h) (Or.inl ⟨by rfl, ?_⟩) hHeld ?_ ?_
                          rotate_left
                          · intro w' z153_
                            have hcz153_ : ∀ i, w'.cell? ⟨gb153, i, none⟩ = _ := blk_cell z153_
                            have hfz153_ := blk_frozen z153_
                            first | (refine Eq.trans (load_here (g := gb153) (ty := 41) rfl rfl z153_ (by kernel_rfl) (by kernel_rfl)) ?_; with_reducible rfl) | (go_simp; with_reducible rfl)
                          rotate_left; (· (simp only [Act.put, List.setIfInBounds_toArray, List.set_cons_zero, List.set_cons_succ, i64_w, i32_w]; rfl))
                          refine pure_ (i := 29) (N := some 120) (v := ?_) (a' := ?_) (tf 30 10) rfl rfl (any_of HT_.out (by kernel_rfl)) (fun _ _ _ h => h) (Or.inl ⟨by rfl, ?_⟩) ?_ ?_
                          rotate_left
                          · intro w'
                            go_simp
                            with_reducible rfl
                          rotate_left; (· (simp only [Act.put, List.setIfInBounds_toArray, List.set_cons_zero, List.set_cons_succ, i64_w, i32_w]; rfl))
                          refine pure_ (i := 30) (N := some 121) (v := ?_) (a' := ?_) (tf 31 9) rfl rfl (any_of HT_.out (by kernel_rfl)) (fun _ _ _ h => h) (Or.inl ⟨by rfl, ?_⟩) ?_ ?_
                          rotate_left
                          · intro w'
                            go_simp
                            with_reducible rfl
                          rotate_left; (· (simp only [Act.put, List.setIfInBounds_toArray, List.set_cons_zero, List.set_cons_succ, i64_w, i32_w]; rfl))
                          refine pure_ (i := 31) (N := some 122) (v := ?_) (a' := ?_) (tf 32 8) rfl rfl (any_of HT_.out (by kernel_rfl)) (fun _ _ _ h => h) (Or.inl ⟨by rfl, ?_⟩) ?_ ?_
                          rotate_left
                          · intro w'
                            go_simp
                            with_reducible rfl
                          rotate_left; (· (simp only [Act.put, List.setIfInBounds_toArray, List.set_cons_zero, List.set_cons_succ, i64_w, i32_w]; rfl))
                          refine take_ (i := 32) (N := some 123) (v := ?_) (a' := ?_) (tf 33 7) rfl rfl (take_ofW HT_.out HW_.out (by kernel_rfl)) (fun _ _ _ h => h) (Or.inl ⟨by rfl, ?_⟩) hHeld ?_ ?_
                          rotate_left
                          · intro w' z153_
                            have hcz153_ : ∀ i, w'.cell? ⟨gb153, i, none⟩ = _ := blk_cell z153_
                            have hfz153_ := blk_frozen z153_
                            first | (refine Eq.trans (load_here (g := gb153) (ty := 41) rfl rfl z153_ (by kernel_rfl) (by kernel_rfl)) ?_; with_reducible rfl) | (go_simp; with_reducible rfl)
                          rotate_left; (· (simp only [Act.put, List.setIfInBounds_toArray, List.set_cons_zero, List.set_cons_succ, i64_w, i32_w]; rfl))
                          refine pure_ (i := 33) (N := some 124) (v := ?_) (a' := ?_) (tf 34 6) rfl rfl (any_of HT_.out (by kernel_rfl)) (fun _ _ _ h => h) (Or.inl ⟨by rfl, ?_⟩) ?_ ?_
                          rotate_left
                          · intro w'
                            go_simp
                            with_reducible rfl
                          rotate_left; (· (simp only [Act.put, List.setIfInBounds_toArray, List.set_cons_zero, List.set_cons_succ, i64_w, i32_w]; rfl))
                          refine pure_ (i := 34) (N := some 125) (v := ?_) (a' := ?_) (tf 35 5) rfl rfl (any_of HT_.out (by kernel_rfl)) (fun _ _ _ h => h) (Or.inl ⟨by rfl, ?_⟩) ?_ ?_
                          rotate_left
                          · intro w'
                            go_simp
                            with_reducible rfl
                          rotate_left; (· (simp only [Act.put, List.setIfInBounds_toArray, List.set_cons_zero, List.set_cons_succ, i64_w, i32_w]; rfl))
                          refine pure_ (i := 35) (N := some 126) (v := ?_) (a' := ?_) (tf 36 4) rfl rfl (any_of HT_.out (by kernel_rfl)) (fun _ _ _ h => h) (Or.inl ⟨by rfl, ?_⟩) ?_ ?_
                          rotate_left
                          · intro w'
                            go_simp
                            with_reducible rfl
                          rotate_left; (· (simp only [Act.put, List.setIfInBounds_toArray, List.set_cons_zero, List.set_cons_succ, i64_w, i32_w]; rfl))
                          refine take_ (i := 36) (N := some 127) (v := ?_) (a' := ?_) (tf 37 3) rfl rfl (take_ofW HT_.out HW_.out (by kernel_rfl)) (fun _ _ _ h => h) (Or.inl ⟨by rfl, ?_⟩) hHeld ?_ ?_
                          rotate_left
                          · intro w' z153_
                            have hcz153_ : ∀ i, w'.cell? ⟨gb153, i, none⟩ = _ := blk_cell z153_
                            have hfz153_ := blk_frozen z153_
                            first | (refine Eq.trans (load_here (g := gb153) (ty := 41) rfl rfl z153_ (by kernel_rfl) (by kernel_rfl)) ?_; with_reducible rfl) | (go_simp; with_reducible rfl)
                          rotate_left; (· (simp only [Act.put, List.setIfInBounds_toArray, List.set_cons_zero, List.set_cons_succ, i64_w, i32_w]; rfl))
                          refine pure_ (i := 37) (N := some 128) (v := ?_) (a' := ?_) (tf 38 2) rfl rfl (any_of HT_.out (by kernel_rfl)) (fun _ _ _ h => h) (Or.inl ⟨by rfl, ?_⟩) ?_ ?_
                          rotate_left
                          · intro w'
                            go_simp
                            with_reducible rfl
                          rotate_left; (· (simp only [Act.put, List.setIfInBounds_toArray, List.set_cons_zero, List.set_cons_succ, i64_w, i32_w]; rfl))
                          refine pure_ (i := 38) (N := some 129) (v := ?_) (a' := ?_) (tf 39 1) rfl rfl (any_of HT_.out (by kernel_rfl)) (fun _ _ _ h => h) (Or.inl ⟨by rfl, ?_⟩) ?_ ?_
                          rotate_left
                          · intro w'
                            go_simp
                            with_reducible rfl
                          rotate_left; (· (simp only [Act.put, List.setIfInBounds_toArray, List.set_cons_zero, List.set_cons_succ, i64_w, i32_w]; rfl))
                          refine pure_ (i := 39) (N := some 130) (v := ?_) (a' := ?_) (tf 40 0) rfl rfl (any_of HT_.out (by kernel_rfl)) (fun _ _ _ h => h) (Or.inl ⟨by rfl, ?_⟩) ?_ ?_
                          rotate_left
                          · intro w'
                            go_simp
                            with_reducible rfl
                          rotate_left; (· (simp only [Act.put, List.setIfInBounds_toArray, List.set_cons_zero, List.set_cons_succ, i64_w, i32_w]; rfl))
                          refine done_ (done_of HT_.out (by kernel_rfl)) ?_
                          try go_wp2
                          go_meet
                          case rel => exact ⟨_, (a0_2), (by first | rfl | (simp; done) | (simp [*]; done)), H', ⟨by have := HJ2.out; first | omega | exact Nat.le_refl _⟩, ⟨by (with_reducible repeat (first | refine blk_drewN ?_ _ | refine blk_drew ?_ | refine blk_alloc ?_ _)); exact BK153.out⟩, ⟨bl⟩⟩
              · rw [if_neg c30] at H
                exact absurd H (by simp)
          case rest =>
            clear HC26
            (try clear c1); (try clear p2); (try clear c3); (try clear c4); (try clear c11); (try clear c30); (try clear c43); (try clear c43b0)
            obtain ⟨kq, x130_25, rfl, HA, HJ25, BK153, HB⟩ := hcut
            cases kq with
            | zero => exact absurd HA.out (by simp [spec_DecOk.j1])
            | succ kj25 =>
              have H := HA.out
              clear HA
              simp only [spec_DecOk.j1] at H
              by_cases c48 : x130_25 = true
              · subst c48
                rw [if_pos rfl] at H
                obtain rfl := Option.some.inj H
                go_wp2
                go_ret
                exact ⟨rr, bl⟩
              · replace c48 := Bool.eq_false_iff.mpr c48
                subst c48
                have H1 : (if a0_12 > 0 then (if a0_11 = (-1) then (spec_DecOk.j2 kj25 true true a0_1 a0_2 a0_3 a0_4 l0_5 l0_6 a0_7 a0_8 a0_9 a0_10 a0_11 a0_12 a0_13 a0_14 a0_15 a0_16 a0_17 a0_18) else ((spec_l20Sized.f kj25 a0_13 a0_14 a0_15 a0_3 a0_4 l0_5 l0_6).bind fun t159 => (if t159 = true then (if a0_12 = 0 then ((spec_l20None.f a0_13 a0_14 a0_15).bind fun t160 => (spec_DecOk.j2 kj25 (!t160) true a0_1 a0_2 a0_3 a0_4 l0_5 l0_6 a0_7 a0_8 a0_9 a0_10 a0_11 a0_12 a0_13 a0_14 a0_15 a0_16 a0_17 a0_18)) else (spec_DecOk.j2 kj25 false true a0_1 a0_2 a0_3 a0_4 l0_5 l0_6 a0_7 a0_8 a0_9 a0_10 a0_11 a0_12 a0_13 a0_14 a0_15 a0_16 a0_17 a0_18)) else (spec_DecOk.j2 kj25 true true a0_1 a0_2 a0_3 a0_4 l0_5 l0_6 a0_7 a0_8 a0_9 a0_10 a0_11 a0_12 a0_13 a0_14 a0_15 a0_16 a0_17 a0_18)))) else (if a0_12 = 0 then ((spec_l20None.f a0_13 a0_14 a0_15).bind fun t161 => (spec_DecOk.j2 kj25 (!t161) true a0_1 a0_2 a0_3 a0_4 l0_5 l0_6 a0_7 a0_8 a0_9 a0_10 a0_11 a0_12 a0_13 a0_14 a0_15 a0_16 a0_17 a0_18)) else (spec_DecOk.j2 kj25 false true a0_1 a0_2 a0_3 a0_4 l0_5 l0_6 a0_7 a0_8 a0_9 a0_10 a0_11 a0_12 a0_13 a0_14 a0_15 a0_16 a0_17 a0_18))) = some r := by rw [if_neg (show ¬ (false = true) by decide)] at H; exact H
                clear H
                have H := H1
                clear H1
                have HC49 := Aside0.mk H
                clear H
                go_upto_region 7 with (fail)
                go_cut [157] (fun v157 wc => ∃ (kq : Nat) (x157_48 : Bool), v157 = .bool x157_48 ∧ Aside0 (spec_DecOk.j2 kq x157_48 true a0_1 a0_2 a0_3 a0_4 l0_5 l0_6 a0_7 a0_8 a0_9 a0_10 a0_11 a0_12 a0_13 a0_14 a0_15 a0_16 a0_17 a0_18 = some r) ∧ Aside0 (kq ≤ kj25) ∧ Aside0 (wc.heap[gb153]? = some (.cells #[.bool true, .bool a0_1, .bool a0_2, .int .i64 a0_3, .int .i64 a0_4, (.slice A0_5 l0_5.length c0_5), (.slice A0_6 l0_6.length c0_6), .int .i64 a0_7, .bool a0_8, .bool a0_9, .bool a0_10, .int .i64 a0_11, .int .i64 a0_12, .int .i64 a0_13, .int .i64 a0_14, .string a0_15, .int .i64 a0_16, .int .i64 a0_17, .string a0_18] 41 (0, 0))) ∧ Aside0 (Below w.heap.size w wc))
                case first =>
                  have H := HC49.out
                  clear HC49
                  by_cases c50 : a0_12 > 0
                  · rw [if_pos c50] at H
                    have c50b0 : decide (0 < a0_12) = true := decide_eq_true c50
                    clear c50
                    (first | rw [c50b0] | (simp only [i64_w, i32_w]; rw [c50b0]) | skip)
                    by_cases c51 : a0_11 = (-1)
                    · rw [if_pos c51] at H
                      have c51b0 : (a0_11 == (-1)) = true := beq_iff_eq.mpr c51
                      have c51b1 : (a0_11 != (-1)) = false := bne_eq_false_iff_eq.mpr c51
                      clear c51
                      have H' := Aside0.mk H
                      clear H
                      have hcz52_0 : ∀ i, wc.cell? ⟨gb153, i, none⟩ = _ := blk_cell BK153.out
                      have hcz52_1 : wc.cell? ⟨gb153, 1, none⟩ = some (.bool a0_1) := (blk_cell BK153.out 1).trans rfl
                      have hcz52_2 : wc.cell? ⟨gb153, 2, none⟩ = some (.bool a0_2) := (blk_cell BK153.out 2).trans rfl
                      have hcz52_3 : wc.cell? ⟨gb153, 3, none⟩ = some (.int .i64 a0_3) := (blk_cell BK153.out 3).trans rfl
                      have hcz52_4 : wc.cell? ⟨gb153, 4, none⟩ = some (.int .i64 a0_4) := (blk_cell BK153.out 4).trans rfl
                      have hcz52_5 : wc.cell? ⟨gb153, 5, none⟩ = some (.slice A0_5 l0_5.length c0_5) := (blk_cell BK153.out 5).trans rfl
                      have hcz52_6 : wc.cell? ⟨gb153, 6, none⟩ = some (.slice A0_6 l0_6.length c0_6) := (blk_cell BK153.out 6).trans rfl
                      have hcz52_7 : wc.cell? ⟨gb153, 7, none⟩ = some (.int .i64 a0_7) := (blk_cell BK153.out 7).trans rfl
                      have hcz52_8 : wc.cell? ⟨gb153, 8, none⟩ = some (.bool a0_8) := (blk_cell BK153.out 8).trans rfl
                      have hcz52_9 : wc.cell? ⟨gb153, 9, none⟩ = some (.bool a0_9) := (blk_cell BK153.out 9).trans rfl
                      have hcz52_10 : wc.cell? ⟨gb153, 10, none⟩ = some (.bool a0_10) := (blk_cell BK153.out 10).trans rfl
                      have hcz52_11 : wc.cell? ⟨gb153, 11, none⟩ = some (.int .i64 a0_11) := (blk_cell BK153.out 11).trans rfl
                      have hcz52_12 : wc.cell? ⟨gb153, 12, none⟩ = some (.int .i64 a0_12) := (blk_cell BK153.out 12).trans rfl
                      have hcz52_13 : wc.cell? ⟨gb153, 13, none⟩ = some (.int .i64 a0_13) := (blk_cell BK153.out 13).trans rfl
                      have hcz52_14 : wc.cell? ⟨gb153, 14, none⟩ = some (.int .i64 a0_14) := (blk_cell BK153.out 14).trans rfl
                      have hcz52_15 : wc.cell? ⟨gb153, 15, none⟩ = some (.string a0_15) := (blk_cell BK153.out 15).trans rfl
                      have hcz52_16 : wc.cell? ⟨gb153, 16, none⟩ = some (.int .i64 a0_16) := (blk_cell BK153.out 16).trans rfl
                      have hcz52_17 : wc.cell? ⟨gb153, 17, none⟩ = some (.int .i64 a0_17) := (blk_cell BK153.out 17).trans rfl
                      have hcz52_18 : wc.cell? ⟨gb153, 18, none⟩ = some (.string a0_18) := (blk_cell BK153.out 18).trans rfl
                      have hfz52_0 := blk_frozen BK153.out
                      have hfz52_1 := blk_frozen BK153.out 1
                      have hfz52_2 := blk_frozen BK153.out 2
                      have hfz52_3 := blk_frozen BK153.out 3
                      have hfz52_4 := blk_frozen BK153.out 4
                      have hfz52_5 := blk_frozen BK153.out 5
                      have hfz52_6 := blk_frozen BK153.out 6
                      have hfz52_7 := blk_frozen BK153.out 7
                      have hfz52_8 := blk_frozen BK153.out 8
                      have hfz52_9 := blk_frozen BK153.out 9
                      have hfz52_10 := blk_frozen BK153.out 10
                      have hfz52_11 := blk_frozen BK153.out 11
                      have hfz52_12 := blk_frozen BK153.out 12
                      have hfz52_13 := blk_frozen BK153.out 13
                      have hfz52_14 := blk_frozen BK153.out 14
                      have hfz52_15 := blk_frozen BK153.out 15
                      have hfz52_16 := blk_frozen BK153.out 16
                      have hfz52_17 := blk_frozen BK153.out 17
                      have hfz52_18 := blk_frozen BK153.out 18
                      go_wp2
                      go_meet
                      case rel => exact ⟨_, (true), (by first | rfl | (simp; done) | (simp [*]; done)), H', ⟨by have := HJ2.out; have := HJ25.out; first | omega | exact Nat.le_refl _⟩, ⟨by (with_reducible repeat (first | refine blk_drewN ?_ _ | refine blk_drew ?_ | refine blk_alloc ?_ _)); exact BK153.out⟩, ⟨bl⟩⟩
                    · rw [if_neg c51] at H
                      have c51b0 : (a0_11 == (-1)) = false := beq_eq_false_iff_ne.mpr c51
                      have c51b1 : (a0_11 != (-1)) = true := bne_iff_ne.mpr c51
                      replace H := Option.bind_eq_some_iff.mp H
                      obtain ⟨t159, A530, H⟩ := H
                      (try dsimp only at H)
                      have A53 := Aside0.mk A530
                      clear A530
                      by_cases c54 : t159 = true
                      · subst c54
                        rw [if_pos rfl] at H
                        by_cases c55 : a0_12 = 0
                        · rw [if_pos c55] at H
                          have c55b0 : (a0_12 == 0) = true := beq_iff_eq.mpr c55
                          have c55b1 : (a0_12 != 0) = false := bne_eq_false_iff_eq.mpr c55
                          clear c55
                          replace H := Option.bind_eq_some_iff.mp H
                          obtain ⟨t160, A560, H⟩ := H
                          (try dsimp only at H)
                          have A56 := Aside0.mk A560
                          clear A560
                          have H' := Aside0.mk H
                          clear H
                          have hcz57_0 : ∀ i, wc.cell? ⟨gb153, i, none⟩ = _ := blk_cell BK153.out
                          have hcz57_1 : wc.cell? ⟨gb153, 1, none⟩ = some (.bool a0_1) := (blk_cell BK153.out 1).trans rfl
                          have hcz57_2 : wc.cell? ⟨gb153, 2, none⟩ = some (.bool a0_2) := (blk_cell BK153.out 2).trans rfl
                          have hcz57_3 : wc.cell? ⟨gb153, 3, none⟩ = some (.int .i64 a0_3) := (blk_cell BK153.out 3).trans rfl
                          have hcz57_4 : wc.cell? ⟨gb153, 4, none⟩ = some (.int .i64 a0_4) := (blk_cell BK153.out 4).trans rfl
                          have hcz57_5 : wc.cell? ⟨gb153, 5, none⟩ = some (.slice A0_5 l0_5.length c0_5) := (blk_cell BK153.out 5).trans rfl
                          have hcz57_6 : wc.cell? ⟨gb153, 6, none⟩ = some (.slice A0_6 l0_6.length c0_6) := (blk_cell BK153.out 6).trans rfl
                          have hcz57_7 : wc.cell? ⟨gb153, 7, none⟩ = some (.int .i64 a0_7) := (blk_cell BK153.out 7).trans rfl
                          have hcz57_8 : wc.cell? ⟨gb153, 8, none⟩ = some (.bool a0_8) := (blk_cell BK153.out 8).trans rfl
                          have hcz57_9 : wc.cell? ⟨gb153, 9, none⟩ = some (.bool a0_9) := (blk_cell BK153.out 9).trans rfl
                          have hcz57_10 : wc.cell? ⟨gb153, 10, none⟩ = some (.bool a0_10) := (blk_cell BK153.out 10).trans rfl
                          have hcz57_11 : wc.cell? ⟨gb153, 11, none⟩ = some (.int .i64 a0_11) := (blk_cell BK153.out 11).trans rfl
                          have hcz57_12 : wc.cell? ⟨gb153, 12, none⟩ = some (.int .i64 a0_12) := (blk_cell BK153.out 12).trans rfl
                          have hcz57_13 : wc.cell? ⟨gb153, 13, none⟩ = some (.int .i64 a0_13) := (blk_cell BK153.out 13).trans rfl
                          have hcz57_14 : wc.cell? ⟨gb153, 14, none⟩ = some (.int .i64 a0_14) := (blk_cell BK153.out 14).trans rfl
                          have hcz57_15 : wc.cell? ⟨gb153, 15, none⟩ = some (.string a0_15) := (blk_cell BK153.out 15).trans rfl
                          have hcz57_16 : wc.cell? ⟨gb153, 16, none⟩ = some (.int .i64 a0_16) := (blk_cell BK153.out 16).trans rfl
                          have hcz57_17 : wc.cell? ⟨gb153, 17, none⟩ = some (.int .i64 a0_17) := (blk_cell BK153.out 17).trans rfl
                          have hcz57_18 : wc.cell? ⟨gb153, 18, none⟩ = some (.string a0_18) := (blk_cell BK153.out 18).trans rfl
                          have hfz57_0 := blk_frozen BK153.out
                          have hfz57_1 := blk_frozen BK153.out 1
                          have hfz57_2 := blk_frozen BK153.out 2
                          have hfz57_3 := blk_frozen BK153.out 3
                          have hfz57_4 := blk_frozen BK153.out 4
                          have hfz57_5 := blk_frozen BK153.out 5
                          have hfz57_6 := blk_frozen BK153.out 6
                          have hfz57_7 := blk_frozen BK153.out 7
                          have hfz57_8 := blk_frozen BK153.out 8
                          have hfz57_9 := blk_frozen BK153.out 9
                          have hfz57_10 := blk_frozen BK153.out 10
                          have hfz57_11 := blk_frozen BK153.out 11
                          have hfz57_12 := blk_frozen BK153.out 12
                          have hfz57_13 := blk_frozen BK153.out 13
                          have hfz57_14 := blk_frozen BK153.out 14
                          have hfz57_15 := blk_frozen BK153.out 15
                          have hfz57_16 := blk_frozen BK153.out 16
                          have hfz57_17 := blk_frozen BK153.out 17
                          have hfz57_18 := blk_frozen BK153.out 18
                          go_wp2_with (first | ((with_reducible refine gate_load (t := 41) rfl ?_); refine load_all (g := gb153) (ty := 41) rfl rfl rfl (bx BK153.out) (by kernel_rfl) (by kernel_rfl) ?_; simp only [Act.put, List.setIfInBounds_toArray, List.set_cons_zero, List.set_cons_succ]) | (go_at_call 115; (with_reducible refine (spec_l20Sized.calls kj25 a0_13 a0_14 a0_15 a0_3 a0_4 _ _ l0_5 _ _ l0_6 true _ ?side1 ?side2 ?side3 ?side4 A53.out).mono ?_); (case side1 => repeat (first | exact (Kd.C_below HR0_5.out HB.out) | (with_reducible refine Kd.C_alloc ?_ _) | (with_reducible refine Kd.C_drewN ?_ _) | (with_reducible refine Kd.C_drew ?_))); (case side2 => exact HC0_5.out); (case side3 => repeat (first | exact (Kd.C_below HR0_6.out HB.out) | (with_reducible refine Kd.C_alloc ?_ _) | (with_reducible refine Kd.C_drewN ?_ _) | (with_reducible refine Kd.C_drew ?_))); (case side4 => exact HC0_6.out); rintro e w58 ⟨rfl, hb⟩; have n0_ := Aside0.mk (blk_below (bx BK153.out) hb); have n1_ := bs HB hb; clear BK153; clear HB; have BK153 := n0_; have HB := n1_; clear n0_ n1_; (try clear hb); (try clear hb2); (try clear hk); (try clear hi); have hcz59_0 : ∀ i, w58.cell? ⟨gb153, i, none⟩ = _ := blk_cell BK153.out; have hfz59_0 := blk_frozen BK153.out) | (go_at_call 112; (with_reducible refine (spec_l20None.calls a0_13 a0_14 a0_15 t160 _ A56.out).mono ?_); rintro e w60 ⟨rfl, hb⟩; have n0_ := Aside0.mk (blk_below (bx BK153.out) hb); have n1_ := bs HB hb; clear BK153; clear HB; have BK153 := n0_; have HB := n1_; clear n0_ n1_; (try clear hb); (try clear hb2); (try clear hk); (try clear hi)))
                          go_meet
                          case rel => exact ⟨_, (!t160), (by first | rfl | (simp; done) | (simp [*]; done)), H', ⟨by have := HJ2.out; have := HJ25.out; first | omega | exact Nat.le_refl _⟩, ⟨by (with_reducible repeat (first | refine blk_drewN ?_ _ | refine blk_drew ?_ | refine blk_alloc ?_ _)); exact BK153.out⟩, ⟨bl⟩⟩
                        · rw [if_neg c55] at H
                          have c55b0 : (a0_12 == 0) = false := beq_eq_false_iff_ne.mpr c55
                          have c55b1 : (a0_12 != 0) = true := bne_iff_ne.mpr c55
                          have H' := Aside0.mk H
                          clear H
                          have hcz61_0 : ∀ i, wc.cell? ⟨gb153, i, none⟩ = _ := blk_cell BK153.out
                          have hcz61_1 : wc.cell? ⟨gb153, 1, none⟩ = some (.bool a0_1) := (blk_cell BK153.out 1).trans rfl
                          have hcz61_2 : wc.cell? ⟨gb153, 2, none⟩ = some (.bool a0_2) := (blk_cell BK153.out 2).trans rfl
                          have hcz61_3 : wc.cell? ⟨gb153, 3, none⟩ = some (.int .i64 a0_3) := (blk_cell BK153.out 3).trans rfl
                          have hcz61_4 : wc.cell? ⟨gb153, 4, none⟩ = some (.int .i64 a0_4) := (blk_cell BK153.out 4).trans rfl
                          have hcz61_5 : wc.cell? ⟨gb153, 5, none⟩ = some (.slice A0_5 l0_5.length c0_5) := (blk_cell BK153.out 5).trans rfl
                          have hcz61_6 : wc.cell? ⟨gb153, 6, none⟩ = some (.slice A0_6 l0_6.length c0_6) := (blk_cell BK153.out 6).trans rfl
                          have hcz61_7 : wc.cell? ⟨gb153, 7, none⟩ = some (.int .i64 a0_7) := (blk_cell BK153.out 7).trans rfl
                          have hcz61_8 : wc.cell? ⟨gb153, 8, none⟩ = some (.bool a0_8) := (blk_cell BK153.out 8).trans rfl
                          have hcz61_9 : wc.cell? ⟨gb153, 9, none⟩ = some (.bool a0_9) := (blk_cell BK153.out 9).trans rfl
                          have hcz61_10 : wc.cell? ⟨gb153, 10, none⟩ = some (.bool a0_10) := (blk_cell BK153.out 10).trans rfl
                          have hcz61_11 : wc.cell? ⟨gb153, 11, none⟩ = some (.int .i64 a0_11) := (blk_cell BK153.out 11).trans rfl
                          have hcz61_12 : wc.cell? ⟨gb153, 12, none⟩ = some (.int .i64 a0_12) := (blk_cell BK153.out 12).trans rfl
                          have hcz61_13 : wc.cell? ⟨gb153, 13, none⟩ = some (.int .i64 a0_13) := (blk_cell BK153.out 13).trans rfl
                          have hcz61_14 : wc.cell? ⟨gb153, 14, none⟩ = some (.int .i64 a0_14) := (blk_cell BK153.out 14).trans rfl
                          have hcz61_15 : wc.cell? ⟨gb153, 15, none⟩ = some (.string a0_15) := (blk_cell BK153.out 15).trans rfl
                          have hcz61_16 : wc.cell? ⟨gb153, 16, none⟩ = some (.int .i64 a0_16) := (blk_cell BK153.out 16).trans rfl
                          have hcz61_17 : wc.cell? ⟨gb153, 17, none⟩ = some (.int .i64 a0_17) := (blk_cell BK153.out 17).trans rfl
                          have hcz61_18 : wc.cell? ⟨gb153, 18, none⟩ = some (.string a0_18) := (blk_cell BK153.out 18).trans rfl
                          have hfz61_0 := blk_frozen BK153.out
                          have hfz61_1 := blk_frozen BK153.out 1
                          have hfz61_2 := blk_frozen BK153.out 2
                          have hfz61_3 := blk_frozen BK153.out 3
                          have hfz61_4 := blk_frozen BK153.out 4
                          have hfz61_5 := blk_frozen BK153.out 5
                          have hfz61_6 := blk_frozen BK153.out 6
                          have hfz61_7 := blk_frozen BK153.out 7
                          have hfz61_8 := blk_frozen BK153.out 8
                          have hfz61_9 := blk_frozen BK153.out 9
                          have hfz61_10 := blk_frozen BK153.out 10
                          have hfz61_11 := blk_frozen BK153.out 11
                          have hfz61_12 := blk_frozen BK153.out 12
                          have hfz61_13 := blk_frozen BK153.out 13
                          have hfz61_14 := blk_frozen BK153.out 14
                          have hfz61_15 := blk_frozen BK153.out 15
                          have hfz61_16 := blk_frozen BK153.out 16
                          have hfz61_17 := blk_frozen BK153.out 17
                          have hfz61_18 := blk_frozen BK153.out 18
                          go_wp2_with (first | ((with_reducible refine gate_load (t := 41) rfl ?_); refine load_all (g := gb153) (ty := 41) rfl rfl rfl (bx BK153.out) (by kernel_rfl) (by kernel_rfl) ?_; simp only [Act.put, List.setIfInBounds_toArray, List.set_cons_zero, List.set_cons_succ]) | (go_at_call 115; (with_reducible refine (spec_l20Sized.calls kj25 a0_13 a0_14 a0_15 a0_3 a0_4 _ _ l0_5 _ _ l0_6 true _ ?side1 ?side2 ?side3 ?side4 A53.out).mono ?_); (case side1 => repeat (first | exact (Kd.C_below HR0_5.out HB.out) | (with_reducible refine Kd.C_alloc ?_ _) | (with_reducible refine Kd.C_drewN ?_ _) | (with_reducible refine Kd.C_drew ?_))); (case side2 => exact HC0_5.out); (case side3 => repeat (first | exact (Kd.C_below HR0_6.out HB.out) | (with_reducible refine Kd.C_alloc ?_ _) | (with_reducible refine Kd.C_drewN ?_ _) | (with_reducible refine Kd.C_drew ?_))); (case side4 => exact HC0_6.out); rintro e w62 ⟨rfl, hb⟩; have n0_ := Aside0.mk (blk_below (bx BK153.out) hb); have n1_ := bs HB hb; clear BK153; clear HB; have BK153 := n0_; have HB := n1_; clear n0_ n1_; (try clear hb); (try clear hb2); (try clear hk); (try clear hi); have hcz63_0 : ∀ i, w62.cell? ⟨gb153, i, none⟩ = _ := blk_cell BK153.out; have hfz63_0 := blk_frozen BK153.out))
                          go_meet
                          case rel => exact ⟨_, (false), (by first | rfl | (simp; done) | (simp [*]; done)), H', ⟨by have := HJ2.out; have := HJ25.out; first | omega | exact Nat.le_refl _⟩, ⟨by (with_reducible repeat (first | refine blk_drewN ?_ _ | refine blk_drew ?_ | refine blk_alloc ?_ _)); exact BK153.out⟩, ⟨bl⟩⟩
                      · replace c54 := Bool.eq_false_iff.mpr c54
                        subst c54
                        have H1 : (spec_DecOk.j2 kj25 true true a0_1 a0_2 a0_3 a0_4 l0_5 l0_6 a0_7 a0_8 a0_9 a0_10 a0_11 a0_12 a0_13 a0_14 a0_15 a0_16 a0_17 a0_18) = some r := by rw [if_neg (show ¬ (false = true) by decide)] at H; exact H
                        clear H
                        have H := H1
                        clear H1
                        have H' := Aside0.mk H
                        clear H
                        have hcz64_0 : ∀ i, wc.cell? ⟨gb153, i, none⟩ = _ := blk_cell BK153.out
                        have hcz64_1 : wc.cell? ⟨gb153, 1, none⟩ = some (.bool a0_1) := (blk_cell BK153.out 1).trans rfl
                        have hcz64_2 : wc.cell? ⟨gb153, 2, none⟩ = some (.bool a0_2) := (blk_cell BK153.out 2).trans rfl
                        have hcz64_3 : wc.cell? ⟨gb153, 3, none⟩ = some (.int .i64 a0_3) := (blk_cell BK153.out 3).trans rfl
                        have hcz64_4 : wc.cell? ⟨gb153, 4, none⟩ = some (.int .i64 a0_4) := (blk_cell BK153.out 4).trans rfl
                        have hcz64_5 : wc.cell? ⟨gb153, 5, none⟩ = some (.slice A0_5 l0_5.length c0_5) := (blk_cell BK153.out 5).trans rfl
                        have hcz64_6 : wc.cell? ⟨gb153, 6, none⟩ = some (.slice A0_6 l0_6.length c0_6) := (blk_cell BK153.out 6).trans rfl
                        have hcz64_7 : wc.cell? ⟨gb153, 7, none⟩ = some (.int .i64 a0_7) := (blk_cell BK153.out 7).trans rfl
                        have hcz64_8 : wc.cell? ⟨gb153, 8, none⟩ = some (.bool a0_8) := (blk_cell BK153.out 8).trans rfl
                        have hcz64_9 : wc.cell? ⟨gb153, 9, none⟩ = some (.bool a0_9) := (blk_cell BK153.out 9).trans rfl
                        have hcz64_10 : wc.cell? ⟨gb153, 10, none⟩ = some (.bool a0_10) := (blk_cell BK153.out 10).trans rfl
                        have hcz64_11 : wc.cell? ⟨gb153, 11, none⟩ = some (.int .i64 a0_11) := (blk_cell BK153.out 11).trans rfl
                        have hcz64_12 : wc.cell? ⟨gb153, 12, none⟩ = some (.int .i64 a0_12) := (blk_cell BK153.out 12).trans rfl
                        have hcz64_13 : wc.cell? ⟨gb153, 13, none⟩ = some (.int .i64 a0_13) := (blk_cell BK153.out 13).trans rfl
                        have hcz64_14 : wc.cell? ⟨gb153, 14, none⟩ = some (.int .i64 a0_14) := (blk_cell BK153.out 14).trans rfl
                        have hcz64_15 : wc.cell? ⟨gb153, 15, none⟩ = some (.string a0_15) := (blk_cell BK153.out 15).trans rfl
                        have hcz64_16 : wc.cell? ⟨gb153, 16, none⟩ = some (.int .i64 a0_16) := (blk_cell BK153.out 16).trans rfl
                        have hcz64_17 : wc.cell? ⟨gb153, 17, none⟩ = some (.int .i64 a0_17) := (blk_cell BK153.out 17).trans rfl
                        have hcz64_18 : wc.cell? ⟨gb153, 18, none⟩ = some (.string a0_18) := (blk_cell BK153.out 18).trans rfl
                        have hfz64_0 := blk_frozen BK153.out
                        have hfz64_1 := blk_frozen BK153.out 1
                        have hfz64_2 := blk_frozen BK153.out 2
                        have hfz64_3 := blk_frozen BK153.out 3
                        have hfz64_4 := blk_frozen BK153.out 4
                        have hfz64_5 := blk_frozen BK153.out 5
                        have hfz64_6 := blk_frozen BK153.out 6
                        have hfz64_7 := blk_frozen BK153.out 7
                        have hfz64_8 := blk_frozen BK153.out 8
                        have hfz64_9 := blk_frozen BK153.out 9
                        have hfz64_10 := blk_frozen BK153.out 10
                        have hfz64_11 := blk_frozen BK153.out 11
                        have hfz64_12 := blk_frozen BK153.out 12
                        have hfz64_13 := blk_frozen BK153.out 13
                        have hfz64_14 := blk_frozen BK153.out 14
                        have hfz64_15 := blk_frozen BK153.out 15
                        have hfz64_16 := blk_frozen BK153.out 16
                        have hfz64_17 := blk_frozen BK153.out 17
                        have hfz64_18 := blk_frozen BK153.out 18
                        go_wp2_with (first | ((with_reducible refine gate_load (t := 41) rfl ?_); refine load_all (g := gb153) (ty := 41) rfl rfl rfl (bx BK153.out) (by kernel_rfl) (by kernel_rfl) ?_; simp only [Act.put, List.setIfInBounds_toArray, List.set_cons_zero, List.set_cons_succ]) | (go_at_call 115; (with_reducible refine (spec_l20Sized.calls kj25 a0_13 a0_14 a0_15 a0_3 a0_4 _ _ l0_5 _ _ l0_6 false _ ?side1 ?side2 ?side3 ?side4 A53.out).mono ?_); (case side1 => repeat (first | exact (Kd.C_below HR0_5.out HB.out) | (with_reducible refine Kd.C_alloc ?_ _) | (with_reducible refine Kd.C_drewN ?_ _) | (with_reducible refine Kd.C_drew ?_))); (case side2 => exact HC0_5.out); (case side3 => repeat (first | exact (Kd.C_below HR0_6.out HB.out) | (with_reducible refine Kd.C_alloc ?_ _) | (with_reducible refine Kd.C_drewN ?_ _) | (with_reducible refine Kd.C_drew ?_))); (case side4 => exact HC0_6.out); rintro e w65 ⟨rfl, hb⟩; have n0_ := Aside0.mk (blk_below (bx BK153.out) hb); have n1_ := bs HB hb; clear BK153; clear HB; have BK153 := n0_; have HB := n1_; clear n0_ n1_; (try clear hb); (try clear hb2); (try clear hk); (try clear hi)))
                        go_meet
                        case rel => exact ⟨_, (true), (by first | rfl | (simp; done) | (simp [*]; done)), H', ⟨by have := HJ2.out; have := HJ25.out; first | omega | exact Nat.le_refl _⟩, ⟨by (with_reducible repeat (first | refine blk_drewN ?_ _ | refine blk_drew ?_ | refine blk_alloc ?_ _)); exact BK153.out⟩, ⟨bl⟩⟩
                  · rw [if_neg c50] at H
                    have c50b0 : decide (0 < a0_12) = false := decide_eq_false c50
                    clear c50
                    (first | rw [c50b0] | (simp only [i64_w, i32_w]; rw [c50b0]) | skip)
                    by_cases c66 : a0_12 = 0
                    · rw [if_pos c66] at H
                      have c66b0 : (a0_12 == 0) = true := beq_iff_eq.mpr c66
                      have c66b1 : (a0_12 != 0) = false := bne_eq_false_iff_eq.mpr c66
                      clear c66
                      replace H := Option.bind_eq_some_iff.mp H
                      obtain ⟨t161, A670, H⟩ := H
                      (try dsimp only at H)
                      have A67 := Aside0.mk A670
                      clear A670
                      have H' := Aside0.mk H
                      clear H
                      have hcz68_0 : ∀ i, wc.cell? ⟨gb153, i, none⟩ = _ := blk_cell BK153.out
                      have hcz68_1 : wc.cell? ⟨gb153, 1, none⟩ = some (.bool a0_1) := (blk_cell BK153.out 1).trans rfl
                      have hcz68_2 : wc.cell? ⟨gb153, 2, none⟩ = some (.bool a0_2) := (blk_cell BK153.out 2).trans rfl
                      have hcz68_3 : wc.cell? ⟨gb153, 3, none⟩ = some (.int .i64 a0_3) := (blk_cell BK153.out 3).trans rfl
                      have hcz68_4 : wc.cell? ⟨gb153, 4, none⟩ = some (.int .i64 a0_4) := (blk_cell BK153.out 4).trans rfl
                      have hcz68_5 : wc.cell? ⟨gb153, 5, none⟩ = some (.slice A0_5 l0_5.length c0_5) := (blk_cell BK153.out 5).trans rfl
                      have hcz68_6 : wc.cell? ⟨gb153, 6, none⟩ = some (.slice A0_6 l0_6.length c0_6) := (blk_cell BK153.out 6).trans rfl
                      have hcz68_7 : wc.cell? ⟨gb153, 7, none⟩ = some (.int .i64 a0_7) := (blk_cell BK153.out 7).trans rfl
                      have hcz68_8 : wc.cell? ⟨gb153, 8, none⟩ = some (.bool a0_8) := (blk_cell BK153.out 8).trans rfl
                      have hcz68_9 : wc.cell? ⟨gb153, 9, none⟩ = some (.bool a0_9) := (blk_cell BK153.out 9).trans rfl
                      have hcz68_10 : wc.cell? ⟨gb153, 10, none⟩ = some (.bool a0_10) := (blk_cell BK153.out 10).trans rfl
                      have hcz68_11 : wc.cell? ⟨gb153, 11, none⟩ = some (.int .i64 a0_11) := (blk_cell BK153.out 11).trans rfl
                      have hcz68_12 : wc.cell? ⟨gb153, 12, none⟩ = some (.int .i64 a0_12) := (blk_cell BK153.out 12).trans rfl
                      have hcz68_13 : wc.cell? ⟨gb153, 13, none⟩ = some (.int .i64 a0_13) := (blk_cell BK153.out 13).trans rfl
                      have hcz68_14 : wc.cell? ⟨gb153, 14, none⟩ = some (.int .i64 a0_14) := (blk_cell BK153.out 14).trans rfl
                      have hcz68_15 : wc.cell? ⟨gb153, 15, none⟩ = some (.string a0_15) := (blk_cell BK153.out 15).trans rfl
                      have hcz68_16 : wc.cell? ⟨gb153, 16, none⟩ = some (.int .i64 a0_16) := (blk_cell BK153.out 16).trans rfl
                      have hcz68_17 : wc.cell? ⟨gb153, 17, none⟩ = some (.int .i64 a0_17) := (blk_cell BK153.out 17).trans rfl
                      have hcz68_18 : wc.cell? ⟨gb153, 18, none⟩ = some (.string a0_18) := (blk_cell BK153.out 18).trans rfl
                      have hfz68_0 := blk_frozen BK153.out
                      have hfz68_1 := blk_frozen BK153.out 1
                      have hfz68_2 := blk_frozen BK153.out 2
                      have hfz68_3 := blk_frozen BK153.out 3
                      have hfz68_4 := blk_frozen BK153.out 4
                      have hfz68_5 := blk_frozen BK153.out 5
                      have hfz68_6 := blk_frozen BK153.out 6
                      have hfz68_7 := blk_frozen BK153.out 7
                      have hfz68_8 := blk_frozen BK153.out 8
                      have hfz68_9 := blk_frozen BK153.out 9
                      have hfz68_10 := blk_frozen BK153.out 10
                      have hfz68_11 := blk_frozen BK153.out 11
                      have hfz68_12 := blk_frozen BK153.out 12
                      have hfz68_13 := blk_frozen BK153.out 13
                      have hfz68_14 := blk_frozen BK153.out 14
                      have hfz68_15 := blk_frozen BK153.out 15
                      have hfz68_16 := blk_frozen BK153.out 16
                      have hfz68_17 := blk_frozen BK153.out 17
                      have hfz68_18 := blk_frozen BK153.out 18
                      go_wp2_with (first | ((with_reducible refine gate_load (t := 41) rfl ?_); refine load_all (g := gb153) (ty := 41) rfl rfl rfl (bx BK153.out) (by kernel_rfl) (by kernel_rfl) ?_; simp only [Act.put, List.setIfInBounds_toArray, List.set_cons_zero, List.set_cons_succ]) | (go_at_call 112; (with_reducible refine (spec_l20None.calls a0_13 a0_14 a0_15 t161 _ A67.out).mono ?_); rintro e w69 ⟨rfl, hb⟩; have n0_ := Aside0.mk (blk_below (bx BK153.out) hb); have n1_ := bs HB hb; clear BK153; clear HB; have BK153 := n0_; have HB := n1_; clear n0_ n1_; (try clear hb); (try clear hb2); (try clear hk); (try clear hi)))
                      go_meet
                      case rel => exact ⟨_, (!t161), (by first | rfl | (simp; done) | (simp [*]; done)), H', ⟨by have := HJ2.out; have := HJ25.out; first | omega | exact Nat.le_refl _⟩, ⟨by (with_reducible repeat (first | refine blk_drewN ?_ _ | refine blk_drew ?_ | refine blk_alloc ?_ _)); exact BK153.out⟩, ⟨bl⟩⟩
                    · rw [if_neg c66] at H
                      have c66b0 : (a0_12 == 0) = false := beq_eq_false_iff_ne.mpr c66
                      have c66b1 : (a0_12 != 0) = true := bne_iff_ne.mpr c66
                      have H' := Aside0.mk H
                      clear H
                      have hcz70_0 : ∀ i, wc.cell? ⟨gb153, i, none⟩ = _ := blk_cell BK153.out
                      have hcz70_1 : wc.cell? ⟨gb153, 1, none⟩ = some (.bool a0_1) := (blk_cell BK153.out 1).trans rfl
                      have hcz70_2 : wc.cell? ⟨gb153, 2, none⟩ = some (.bool a0_2) := (blk_cell BK153.out 2).trans rfl
                      have hcz70_3 : wc.cell? ⟨gb153, 3, none⟩ = some (.int .i64 a0_3) := (blk_cell BK153.out 3).trans rfl
                      have hcz70_4 : wc.cell? ⟨gb153, 4, none⟩ = some (.int .i64 a0_4) := (blk_cell BK153.out 4).trans rfl
                      have hcz70_5 : wc.cell? ⟨gb153, 5, none⟩ = some (.slice A0_5 l0_5.length c0_5) := (blk_cell BK153.out 5).trans rfl
                      have hcz70_6 : wc.cell? ⟨gb153, 6, none⟩ = some (.slice A0_6 l0_6.length c0_6) := (blk_cell BK153.out 6).trans rfl
                      have hcz70_7 : wc.cell? ⟨gb153, 7, none⟩ = some (.int .i64 a0_7) := (blk_cell BK153.out 7).trans rfl
                      have hcz70_8 : wc.cell? ⟨gb153, 8, none⟩ = some (.bool a0_8) := (blk_cell BK153.out 8).trans rfl
                      have hcz70_9 : wc.cell? ⟨gb153, 9, none⟩ = some (.bool a0_9) := (blk_cell BK153.out 9).trans rfl
                      have hcz70_10 : wc.cell? ⟨gb153, 10, none⟩ = some (.bool a0_10) := (blk_cell BK153.out 10).trans rfl
                      have hcz70_11 : wc.cell? ⟨gb153, 11, none⟩ = some (.int .i64 a0_11) := (blk_cell BK153.out 11).trans rfl
                      have hcz70_12 : wc.cell? ⟨gb153, 12, none⟩ = some (.int .i64 a0_12) := (blk_cell BK153.out 12).trans rfl
                      have hcz70_13 : wc.cell? ⟨gb153, 13, none⟩ = some (.int .i64 a0_13) := (blk_cell BK153.out 13).trans rfl
                      have hcz70_14 : wc.cell? ⟨gb153, 14, none⟩ = some (.int .i64 a0_14) := (blk_cell BK153.out 14).trans rfl
                      have hcz70_15 : wc.cell? ⟨gb153, 15, none⟩ = some (.string a0_15) := (blk_cell BK153.out 15).trans rfl
                      have hcz70_16 : wc.cell? ⟨gb153, 16, none⟩ = some (.int .i64 a0_16) := (blk_cell BK153.out 16).trans rfl
                      have hcz70_17 : wc.cell? ⟨gb153, 17, none⟩ = some (.int .i64 a0_17) := (blk_cell BK153.out 17).trans rfl
                      have hcz70_18 : wc.cell? ⟨gb153, 18, none⟩ = some (.string a0_18) := (blk_cell BK153.out 18).trans rfl
                      have hfz70_0 := blk_frozen BK153.out
                      have hfz70_1 := blk_frozen BK153.out 1
                      have hfz70_2 := blk_frozen BK153.out 2
                      have hfz70_3 := blk_frozen BK153.out 3
                      have hfz70_4 := blk_frozen BK153.out 4
                      have hfz70_5 := blk_frozen BK153.out 5
                      have hfz70_6 := blk_frozen BK153.out 6
                      have hfz70_7 := blk_frozen BK153.out 7
                      have hfz70_8 := blk_frozen BK153.out 8
                      have hfz70_9 := blk_frozen BK153.out 9
                      have hfz70_10 := blk_frozen BK153.out 10
                      have hfz70_11 := blk_frozen BK153.out 11
                      have hfz70_12 := blk_frozen BK153.out 12
                      have hfz70_13 := blk_frozen BK153.out 13
                      have hfz70_14 := blk_frozen BK153.out 14
                      have hfz70_15 := blk_frozen BK153.out 15
                      have hfz70_16 := blk_frozen BK153.out 16
                      have hfz70_17 := blk_frozen BK153.out 17
                      have hfz70_18 := blk_frozen BK153.out 18
                      go_wp2
                      go_meet
                      case rel => exact ⟨_, (false), (by first | rfl | (simp; done) | (simp [*]; done)), H', ⟨by have := HJ2.out; have := HJ25.out; first | omega | exact Nat.le_refl _⟩, ⟨by (with_reducible repeat (first | refine blk_drewN ?_ _ | refine blk_drew ?_ | refine blk_alloc ?_ _)); exact BK153.out⟩, ⟨bl⟩⟩
                case rest =>
                  clear HC49
                  (try clear c1); (try clear p2); (try clear c3); (try clear c4); (try clear c5); (try clear c6); (try clear c11); (try clear c30); (try clear c43); (try clear c43b0); (try clear c48); (try clear c50); (try clear c50b0); (try clear c51); (try clear c51b0); (try clear c51b1); (try clear c54); (try clear c55); (try clear c55b0); (try clear c55b1); (try clear c66); (try clear c66b0); (try clear c66b1); (try clear hcz52_0); (try clear hcz52_1); (try clear hcz52_10); (try clear hcz52_11); (try clear hcz52_12); (try clear hcz52_13); (try clear hcz52_14); (try clear hcz52_15); (try clear hcz52_16); (try clear hcz52_17); (try clear hcz52_18); (try clear hcz52_2); (try clear hcz52_3); (try clear hcz52_4); (try clear hcz52_5); (try clear hcz52_6); (try clear hcz52_7); (try clear hcz52_8); (try clear hcz52_9); (try clear hcz57_0); (try clear hcz57_1); (try clear hcz57_10); (try clear hcz57_11); (try clear hcz57_12); (try clear hcz57_13); (try clear hcz57_14); (try clear hcz57_15); (try clear hcz57_16); (try clear hcz57_17); (try clear hcz57_18); (try clear hcz57_2); (try clear hcz57_3); (try clear hcz57_4); (try clear hcz57_5); (try clear hcz57_6); (try clear hcz57_7); (try clear hcz57_8); (try clear hcz57_9); (try clear hcz59_0); (try clear hcz59_1); (try clear hcz59_10); (try clear hcz59_11); (try clear hcz59_12); (try clear hcz59_13); (try clear hcz59_14); (try clear hcz59_15); (try clear hcz59_16); (try clear hcz59_17); (try clear hcz59_18); (try clear hcz59_2); (try clear hcz59_3); (try clear hcz59_4); (try clear hcz59_5); (try clear hcz59_6); (try clear hcz59_7); (try clear hcz59_8); (try clear hcz59_9); (try clear hcz61_0); (try clear hcz61_1); (try clear hcz61_10); (try clear hcz61_11); (try clear hcz61_12); (try clear hcz61_13); (try clear hcz61_14); (try clear hcz61_15); (try clear hcz61_16); (try clear hcz61_17); (try clear hcz61_18); (try clear hcz61_2); (try clear hcz61_3); (try clear hcz61_4); (try clear hcz61_5); (try clear hcz61_6); (try clear hcz61_7); (try clear hcz61_8); (try clear hcz61_9); (try clear hcz63_0); (try clear hcz63_1); (try clear hcz63_10); (try clear hcz63_11); (try clear hcz63_12); (try clear hcz63_13); (try clear hcz63_14); (try clear hcz63_15); (try clear hcz63_16); (try clear hcz63_17); (try clear hcz63_18); (try clear hcz63_2); (try clear hcz63_3); (try clear hcz63_4); (try clear hcz63_5); (try clear hcz63_6); (try clear hcz63_7); (try clear hcz63_8); (try clear hcz63_9); (try clear hcz64_0); (try clear hcz64_1); (try clear hcz64_10); (try clear hcz64_11); (try clear hcz64_12); (try clear hcz64_13); (try clear hcz64_14); (try clear hcz64_15); (try clear hcz64_16); (try clear hcz64_17); (try clear hcz64_18); (try clear hcz64_2); (try clear hcz64_3); (try clear hcz64_4); (try clear hcz64_5); (try clear hcz64_6); (try clear hcz64_7); (try clear hcz64_8); (try clear hcz64_9); (try clear hcz68_0); (try clear hcz68_1); (try clear hcz68_10); (try clear hcz68_11); (try clear hcz68_12); (try clear hcz68_13); (try clear hcz68_14); (try clear hcz68_15); (try clear hcz68_16); (try clear hcz68_17); (try clear hcz68_18); (try clear hcz68_2); (try clear hcz68_3); (try clear hcz68_4); (try clear hcz68_5); (try clear hcz68_6); (try clear hcz68_7); (try clear hcz68_8); (try clear hcz68_9); (try clear hcz70_0); (try clear hcz70_1); (try clear hcz70_10); (try clear hcz70_11); (try clear hcz70_12); (try clear hcz70_13); (try clear hcz70_14); (try clear hcz70_15); (try clear hcz70_16); (try clear hcz70_17); (try clear hcz70_18); (try clear hcz70_2); (try clear hcz70_3); (try clear hcz70_4); (try clear hcz70_5); (try clear hcz70_6); (try clear hcz70_7); (try clear hcz70_8); (try clear hcz70_9); (try clear hfz52_0); (try clear hfz52_1); (try clear hfz52_10); (try clear hfz52_11); (try clear hfz52_12); (try clear hfz52_13); (try clear hfz52_14); (try clear hfz52_15); (try clear hfz52_16); (try clear hfz52_17); (try clear hfz52_18); (try clear hfz52_2); (try clear hfz52_3); (try clear hfz52_4); (try clear hfz52_5); (try clear hfz52_6); (try clear hfz52_7); (try clear hfz52_8); (try clear hfz52_9); (try clear hfz57_0); (try clear hfz57_1); (try clear hfz57_10); (try clear hfz57_11); (try clear hfz57_12); (try clear hfz57_13); (try clear hfz57_14); (try clear hfz57_15); (try clear hfz57_16); (try clear hfz57_17); (try clear hfz57_18); (try clear hfz57_2); (try clear hfz57_3); (try clear hfz57_4); (try clear hfz57_5); (try clear hfz57_6); (try clear hfz57_7); (try clear hfz57_8); (try clear hfz57_9); (try clear hfz59_0); (try clear hfz59_1); (try clear hfz59_10); (try clear hfz59_11); (try clear hfz59_12); (try clear hfz59_13); (try clear hfz59_14); (try clear hfz59_15); (try clear hfz59_16); (try clear hfz59_17); (try clear hfz59_18); (try clear hfz59_2); (try clear hfz59_3); (try clear hfz59_4); (try clear hfz59_5); (try clear hfz59_6); (try clear hfz59_7); (try clear hfz59_8); (try clear hfz59_9); (try clear hfz61_0); (try clear hfz61_1); (try clear hfz61_10); (try clear hfz61_11); (try clear hfz61_12); (try clear hfz61_13); (try clear hfz61_14); (try clear hfz61_15); (try clear hfz61_16); (try clear hfz61_17); (try clear hfz61_18); (try clear hfz61_2); (try clear hfz61_3); (try clear hfz61_4); (try clear hfz61_5); (try clear hfz61_6); (try clear hfz61_7); (try clear hfz61_8); (try clear hfz61_9); (try clear hfz63_0); (try clear hfz63_1); (try clear hfz63_10); (try clear hfz63_11); (try clear hfz63_12); (try clear hfz63_13); (try clear hfz63_14); (try clear hfz63_15); (try clear hfz63_16); (try clear hfz63_17); (try clear hfz63_18); (try clear hfz63_2); (try clear hfz63_3); (try clear hfz63_4); (try clear hfz63_5); (try clear hfz63_6); (try clear hfz63_7); (try clear hfz63_8); (try clear hfz63_9); (try clear hfz64_0); (try clear hfz64_1); (try clear hfz64_10); (try clear hfz64_11); (try clear hfz64_12); (try clear hfz64_13); (try clear hfz64_14); (try clear hfz64_15); (try clear hfz64_16); (try clear hfz64_17); (try clear hfz64_18); (try clear hfz64_2); (try clear hfz64_3); (try clear hfz64_4); (try clear hfz64_5); (try clear hfz64_6); (try clear hfz64_7); (try clear hfz64_8); (try clear hfz64_9); (try clear hfz68_0); (try clear hfz68_1); (try clear hfz68_10); (try clear hfz68_11); (try clear hfz68_12); (try clear hfz68_13); (try clear hfz68_14); (try clear hfz68_15); (try clear hfz68_16); (try clear hfz68_17); (try clear hfz68_18); (try clear hfz68_2); (try clear hfz68_3); (try clear hfz68_4); (try clear hfz68_5); (try clear hfz68_6); (try clear hfz68_7); (try clear hfz68_8); (try clear hfz68_9); (try clear hfz70_0); (try clear hfz70_1); (try clear hfz70_10); (try clear hfz70_11); (try clear hfz70_12); (try clear hfz70_13); (try clear hfz70_14); (try clear hfz70_15); (try clear hfz70_16); (try clear hfz70_17); (try clear hfz70_18); (try clear hfz70_2); (try clear hfz70_3); (try clear hfz70_4); (try clear hfz70_5); (try clear hfz70_6); (try clear hfz70_7); (try clear hfz70_8); (try clear hfz70_9); (try clear p2)
                  obtain ⟨kq, x157_48, rfl, HA, HJ48, BK153, HB⟩ := hcut
                  cases kq with
                  | zero => exact absurd HA.out (by simp [spec_DecOk.j2])
                  | succ kj48 =>
                    have H := HA.out
                    clear HA
                    simp only [spec_DecOk.j2] at H
                    by_cases c71 : x157_48 = true
                    · subst c71
                      rw [if_pos rfl] at H
                      obtain rfl := Option.some.inj H
                      go_wp2
                      go_ret
                      exact ⟨rr, bl⟩
                    · replace c71 := Bool.eq_false_iff.mpr c71
                      subst c71
                      have H1 : (if a0_2 = true then ((spec_l20Sized.f kj48 a0_16 a0_17 a0_18 a0_3 a0_4 l0_5 l0_6).bind fun t162 => (if t162 = true then (some true) else (some false))) else ((spec_l20None.f a0_16 a0_17 a0_18).bind fun t163 => (some t163))) = some r := by rw [if_neg (show ¬ (false = true) by decide)] at H; exact H
                      clear H
                      have H := H1
                      clear H1
                      by_cases c72 : a0_2 = true
                      · subst c72
                        rw [if_pos rfl] at H
                        replace H := Option.bind_eq_some_iff.mp H
                        obtain ⟨t162, A730, H⟩ := H
                        (try dsimp only at H)
                        have A73 := Aside0.mk A730
                        clear A730
                        by_cases c74 : t162 = true
                        · subst c74
                          rw [if_pos rfl] at H
                          obtain rfl := Option.some.inj H
                          have hcz75_0 : ∀ i, wc.cell? ⟨gb153, i, none⟩ = _ := blk_cell BK153.out
                          have hcz75_1 : wc.cell? ⟨gb153, 1, none⟩ = some (.bool a0_1) := (blk_cell BK153.out 1).trans rfl
                          have hcz75_2 : wc.cell? ⟨gb153, 2, none⟩ = some (.bool true) := (blk_cell BK153.out 2).trans rfl
                          have hcz75_3 : wc.cell? ⟨gb153, 3, none⟩ = some (.int .i64 a0_3) := (blk_cell BK153.out 3).trans rfl
                          have hcz75_4 : wc.cell? ⟨gb153, 4, none⟩ = some (.int .i64 a0_4) := (blk_cell BK153.out 4).trans rfl
                          have hcz75_5 : wc.cell? ⟨gb153, 5, none⟩ = some (.slice A0_5 l0_5.length c0_5) := (blk_cell BK153.out 5).trans rfl
                          have hcz75_6 : wc.cell? ⟨gb153, 6, none⟩ = some (.slice A0_6 l0_6.length c0_6) := (blk_cell BK153.out 6).trans rfl
                          have hcz75_7 : wc.cell? ⟨gb153, 7, none⟩ = some (.int .i64 a0_7) := (blk_cell BK153.out 7).trans rfl
                          have hcz75_8 : wc.cell? ⟨gb153, 8, none⟩ = some (.bool a0_8) := (blk_cell BK153.out 8).trans rfl
                          have hcz75_9 : wc.cell? ⟨gb153, 9, none⟩ = some (.bool a0_9) := (blk_cell BK153.out 9).trans rfl
                          have hcz75_10 : wc.cell? ⟨gb153, 10, none⟩ = some (.bool a0_10) := (blk_cell BK153.out 10).trans rfl
                          have hcz75_11 : wc.cell? ⟨gb153, 11, none⟩ = some (.int .i64 a0_11) := (blk_cell BK153.out 11).trans rfl
                          have hcz75_12 : wc.cell? ⟨gb153, 12, none⟩ = some (.int .i64 a0_12) := (blk_cell BK153.out 12).trans rfl
                          have hcz75_13 : wc.cell? ⟨gb153, 13, none⟩ = some (.int .i64 a0_13) := (blk_cell BK153.out 13).trans rfl
                          have hcz75_14 : wc.cell? ⟨gb153, 14, none⟩ = some (.int .i64 a0_14) := (blk_cell BK153.out 14).trans rfl
                          have hcz75_15 : wc.cell? ⟨gb153, 15, none⟩ = some (.string a0_15) := (blk_cell BK153.out 15).trans rfl
                          have hcz75_16 : wc.cell? ⟨gb153, 16, none⟩ = some (.int .i64 a0_16) := (blk_cell BK153.out 16).trans rfl
                          have hcz75_17 : wc.cell? ⟨gb153, 17, none⟩ = some (.int .i64 a0_17) := (blk_cell BK153.out 17).trans rfl
                          have hcz75_18 : wc.cell? ⟨gb153, 18, none⟩ = some (.string a0_18) := (blk_cell BK153.out 18).trans rfl
                          have hfz75_0 := blk_frozen BK153.out
                          have hfz75_1 := blk_frozen BK153.out 1
                          have hfz75_2 := blk_frozen BK153.out 2
                          have hfz75_3 := blk_frozen BK153.out 3
                          have hfz75_4 := blk_frozen BK153.out 4
                          have hfz75_5 := blk_frozen BK153.out 5
                          have hfz75_6 := blk_frozen BK153.out 6
                          have hfz75_7 := blk_frozen BK153.out 7
                          have hfz75_8 := blk_frozen BK153.out 8
                          have hfz75_9 := blk_frozen BK153.out 9
                          have hfz75_10 := blk_frozen BK153.out 10
                          have hfz75_11 := blk_frozen BK153.out 11
                          have hfz75_12 := blk_frozen BK153.out 12
                          have hfz75_13 := blk_frozen BK153.out 13
                          have hfz75_14 := blk_frozen BK153.out 14
                          have hfz75_15 := blk_frozen BK153.out 15
                          have hfz75_16 := blk_frozen BK153.out 16
                          have hfz75_17 := blk_frozen BK153.out 17
                          have hfz75_18 := blk_frozen BK153.out 18
                          go_wp2_with (first | ((with_reducible refine gate_load (t := 41) rfl ?_); refine load_all (g := gb153) (ty := 41) rfl rfl rfl (bx BK153.out) (by kernel_rfl) (by kernel_rfl) ?_; simp only [Act.put, List.setIfInBounds_toArray, List.set_cons_zero, List.set_cons_succ]) | (go_at_call 115; (with_reducible refine (spec_l20Sized.calls kj48 a0_16 a0_17 a0_18 a0_3 a0_4 _ _ l0_5 _ _ l0_6 true _ ?side1 ?side2 ?side3 ?side4 A73.out).mono ?_); (case side1 => repeat (first | exact (Kd.C_below HR0_5.out HB.out) | (with_reducible refine Kd.C_alloc ?_ _) | (with_reducible refine Kd.C_drewN ?_ _) | (with_reducible refine Kd.C_drew ?_))); (case side2 => exact HC0_5.out); (case side3 => repeat (first | exact (Kd.C_below HR0_6.out HB.out) | (with_reducible refine Kd.C_alloc ?_ _) | (with_reducible refine Kd.C_drewN ?_ _) | (with_reducible refine Kd.C_drew ?_))); (case side4 => exact HC0_6.out); rintro e w76 ⟨rfl, hb⟩; have n0_ := Aside0.mk (blk_below (bx BK153.out) hb); have n1_ := bs HB hb; clear BK153; clear HB; have BK153 := n0_; have HB := n1_; clear n0_ n1_; (try clear hb); (try clear hb2); (try clear hk); (try clear hi)))
                          go_ret
                          exact ⟨rr, bl⟩
                        · replace c74 := Bool.eq_false_iff.mpr c74
                          subst c74
                          have H1 : (some false) = some r := by rw [if_neg (show ¬ (false = true) by decide)] at H; exact H
                          clear H
                          have H := H1
                          clear H1
                          obtain rfl := Option.some.inj H
                          have hcz77_0 : ∀ i, wc.cell? ⟨gb153, i, none⟩ = _ := blk_cell BK153.out
                          have hcz77_1 : wc.cell? ⟨gb153, 1, none⟩ = some (.bool a0_1) := (blk_cell BK153.out 1).trans rfl
                          have hcz77_2 : wc.cell? ⟨gb153, 2, none⟩ = some (.bool true) := (blk_cell BK153.out 2).trans rfl
                          have hcz77_3 : wc.cell? ⟨gb153, 3, none⟩ = some (.int .i64 a0_3) := (blk_cell BK153.out 3).trans rfl
                          have hcz77_4 : wc.cell? ⟨gb153, 4, none⟩ = some (.int .i64 a0_4) := (blk_cell BK153.out 4).trans rfl
                          have hcz77_5 : wc.cell? ⟨gb153, 5, none⟩ = some (.slice A0_5 l0_5.length c0_5) := (blk_cell BK153.out 5).trans rfl
                          have hcz77_6 : wc.cell? ⟨gb153, 6, none⟩ = some (.slice A0_6 l0_6.length c0_6) := (blk_cell BK153.out 6).trans rfl
                          have hcz77_7 : wc.cell? ⟨gb153, 7, none⟩ = some (.int .i64 a0_7) := (blk_cell BK153.out 7).trans rfl
                          have hcz77_8 : wc.cell? ⟨gb153, 8, none⟩ = some (.bool a0_8) := (blk_cell BK153.out 8).trans rfl
                          have hcz77_9 : wc.cell? ⟨gb153, 9, none⟩ = some (.bool a0_9) := (blk_cell BK153.out 9).trans rfl
                          have hcz77_10 : wc.cell? ⟨gb153, 10, none⟩ = some (.bool a0_10) := (blk_cell BK153.out 10).trans rfl
                          have hcz77_11 : wc.cell? ⟨gb153, 11, none⟩ = some (.int .i64 a0_11) := (blk_cell BK153.out 11).trans rfl
                          have hcz77_12 : wc.cell? ⟨gb153, 12, none⟩ = some (.int .i64 a0_12) := (blk_cell BK153.out 12).trans rfl
                          have hcz77_13 : wc.cell? ⟨gb153, 13, none⟩ = some (.int .i64 a0_13) := (blk_cell BK153.out 13).trans rfl
                          have hcz77_14 : wc.cell? ⟨gb153, 14, none⟩ = some (.int .i64 a0_14) := (blk_cell BK153.out 14).trans rfl
                          have hcz77_15 : wc.cell? ⟨gb153, 15, none⟩ = some (.string a0_15) := (blk_cell BK153.out 15).trans rfl
                          have hcz77_16 : wc.cell? ⟨gb153, 16, none⟩ = some (.int .i64 a0_16) := (blk_cell BK153.out 16).trans rfl
                          have hcz77_17 : wc.cell? ⟨gb153, 17, none⟩ = some (.int .i64 a0_17) := (blk_cell BK153.out 17).trans rfl
                          have hcz77_18 : wc.cell? ⟨gb153, 18, none⟩ = some (.string a0_18) := (blk_cell BK153.out 18).trans rfl
                          have hfz77_0 := blk_frozen BK153.out
                          have hfz77_1 := blk_frozen BK153.out 1
                          have hfz77_2 := blk_frozen BK153.out 2
                          have hfz77_3 := blk_frozen BK153.out 3
                          have hfz77_4 := blk_frozen BK153.out 4
                          have hfz77_5 := blk_frozen BK153.out 5
                          have hfz77_6 := blk_frozen BK153.out 6
                          have hfz77_7 := blk_frozen BK153.out 7
                          have hfz77_8 := blk_frozen BK153.out 8
                          have hfz77_9 := blk_frozen BK153.out 9
                          have hfz77_10 := blk_frozen BK153.out 10
                          have hfz77_11 := blk_frozen BK153.out 11
                          have hfz77_12 := blk_frozen BK153.out 12
                          have hfz77_13 := blk_frozen BK153.out 13
                          have hfz77_14 := blk_frozen BK153.out 14
                          have hfz77_15 := blk_frozen BK153.out 15
                          have hfz77_16 := blk_frozen BK153.out 16
                          have hfz77_17 := blk_frozen BK153.out 17
                          have hfz77_18 := blk_frozen BK153.out 18
                          go_wp2_with (first | ((with_reducible refine gate_load (t := 41) rfl ?_); refine load_all (g := gb153) (ty := 41) rfl rfl rfl (bx BK153.out) (by kernel_rfl) (by kernel_rfl) ?_; simp only [Act.put, List.setIfInBounds_toArray, List.set_cons_zero, List.set_cons_succ]) | (go_at_call 115; (with_reducible refine (spec_l20Sized.calls kj48 a0_16 a0_17 a0_18 a0_3 a0_4 _ _ l0_5 _ _ l0_6 false _ ?side1 ?side2 ?side3 ?side4 A73.out).mono ?_); (case side1 => repeat (first | exact (Kd.C_below HR0_5.out HB.out) | (with_reducible refine Kd.C_alloc ?_ _) | (with_reducible refine Kd.C_drewN ?_ _) | (with_reducible refine Kd.C_drew ?_))); (case side2 => exact HC0_5.out); (case side3 => repeat (first | exact (Kd.C_below HR0_6.out HB.out) | (with_reducible refine Kd.C_alloc ?_ _) | (with_reducible refine Kd.C_drewN ?_ _) | (with_reducible refine Kd.C_drew ?_))); (case side4 => exact HC0_6.out); rintro e w78 ⟨rfl, hb⟩; have n0_ := Aside0.mk (blk_below (bx BK153.out) hb); have n1_ := bs HB hb; clear BK153; clear HB; have BK153 := n0_; have HB := n1_; clear n0_ n1_; (try clear hb); (try clear hb2); (try clear hk); (try clear hi); have hcz79_0 : ∀ i, w78.cell? ⟨gb153, i, none⟩ = _ := blk_cell BK153.out; have hfz79_0 := blk_frozen BK153.out))
                          go_ret
                          exact ⟨rr, bl⟩
                      · replace c72 := Bool.eq_false_iff.mpr c72
                        subst c72
                        have H1 : ((spec_l20None.f a0_16 a0_17 a0_18).bind fun t163 => (some t163)) = some r := by rw [if_neg (show ¬ (false = true) by decide)] at H; exact H
                        clear H
                        have H := H1
                        clear H1
                        replace H := Option.bind_eq_some_iff.mp H
                        obtain ⟨t163, A800, H⟩ := H
                        (try dsimp only at H)
                        have A80 := Aside0.mk A800
                        clear A800
                        obtain rfl := Option.some.inj H
                        have hcz81_0 : ∀ i, wc.cell? ⟨gb153, i, none⟩ = _ := blk_cell BK153.out
                        have hcz81_1 : wc.cell? ⟨gb153, 1, none⟩ = some (.bool a0_1) := (blk_cell BK153.out 1).trans rfl
                        have hcz81_2 : wc.cell? ⟨gb153, 2, none⟩ = some (.bool false) := (blk_cell BK153.out 2).trans rfl
                        have hcz81_3 : wc.cell? ⟨gb153, 3, none⟩ = some (.int .i64 a0_3) := (blk_cell BK153.out 3).trans rfl
                        have hcz81_4 : wc.cell? ⟨gb153, 4, none⟩ = some (.int .i64 a0_4) := (blk_cell BK153.out 4).trans rfl
                        have hcz81_5 : wc.cell? ⟨gb153, 5, none⟩ = some (.slice A0_5 l0_5.length c0_5) := (blk_cell BK153.out 5).trans rfl
                        have hcz81_6 : wc.cell? ⟨gb153, 6, none⟩ = some (.slice A0_6 l0_6.length c0_6) := (blk_cell BK153.out 6).trans rfl
                        have hcz81_7 : wc.cell? ⟨gb153, 7, none⟩ = some (.int .i64 a0_7) := (blk_cell BK153.out 7).trans rfl
                        have hcz81_8 : wc.cell? ⟨gb153, 8, none⟩ = some (.bool a0_8) := (blk_cell BK153.out 8).trans rfl
                        have hcz81_9 : wc.cell? ⟨gb153, 9, none⟩ = some (.bool a0_9) := (blk_cell BK153.out 9).trans rfl
                        have hcz81_10 : wc.cell? ⟨gb153, 10, none⟩ = some (.bool a0_10) := (blk_cell BK153.out 10).trans rfl
                        have hcz81_11 : wc.cell? ⟨gb153, 11, none⟩ = some (.int .i64 a0_11) := (blk_cell BK153.out 11).trans rfl
                        have hcz81_12 : wc.cell? ⟨gb153, 12, none⟩ = some (.int .i64 a0_12) := (blk_cell BK153.out 12).trans rfl
                        have hcz81_13 : wc.cell? ⟨gb153, 13, none⟩ = some (.int .i64 a0_13) := (blk_cell BK153.out 13).trans rfl
                        have hcz81_14 : wc.cell? ⟨gb153, 14, none⟩ = some (.int .i64 a0_14) := (blk_cell BK153.out 14).trans rfl
                        have hcz81_15 : wc.cell? ⟨gb153, 15, none⟩ = some (.string a0_15) := (blk_cell BK153.out 15).trans rfl
                        have hcz81_16 : wc.cell? ⟨gb153, 16, none⟩ = some (.int .i64 a0_16) := (blk_cell BK153.out 16).trans rfl
                        have hcz81_17 : wc.cell? ⟨gb153, 17, none⟩ = some (.int .i64 a0_17) := (blk_cell BK153.out 17).trans rfl
                        have hcz81_18 : wc.cell? ⟨gb153, 18, none⟩ = some (.string a0_18) := (blk_cell BK153.out 18).trans rfl
                        have hfz81_0 := blk_frozen BK153.out
                        have hfz81_1 := blk_frozen BK153.out 1
                        have hfz81_2 := blk_frozen BK153.out 2
                        have hfz81_3 := blk_frozen BK153.out 3
                        have hfz81_4 := blk_frozen BK153.out 4
                        have hfz81_5 := blk_frozen BK153.out 5
                        have hfz81_6 := blk_frozen BK153.out 6
                        have hfz81_7 := blk_frozen BK153.out 7
                        have hfz81_8 := blk_frozen BK153.out 8
                        have hfz81_9 := blk_frozen BK153.out 9
                        have hfz81_10 := blk_frozen BK153.out 10
                        have hfz81_11 := blk_frozen BK153.out 11
                        have hfz81_12 := blk_frozen BK153.out 12
                        have hfz81_13 := blk_frozen BK153.out 13
                        have hfz81_14 := blk_frozen BK153.out 14
                        have hfz81_15 := blk_frozen BK153.out 15
                        have hfz81_16 := blk_frozen BK153.out 16
                        have hfz81_17 := blk_frozen BK153.out 17
                        have hfz81_18 := blk_frozen BK153.out 18
                        go_wp2_with (first | ((with_reducible refine gate_load (t := 41) rfl ?_); refine load_all (g := gb153) (ty := 41) rfl rfl rfl (bx BK153.out) (by kernel_rfl) (by kernel_rfl) ?_; simp only [Act.put, List.setIfInBounds_toArray, List.set_cons_zero, List.set_cons_succ]) | (go_at_call 112; (with_reducible refine (spec_l20None.calls a0_16 a0_17 a0_18 t163 _ A80.out).mono ?_); rintro e w82 ⟨rfl, hb⟩; have n0_ := Aside0.mk (blk_below (bx BK153.out) hb); have n1_ := bs HB hb; clear BK153; clear HB; have BK153 := n0_; have HB := n1_; clear n0_ n1_; (try clear hb); (try clear hb2); (try clear hk); (try clear hi)))
                        go_ret
                        exact ⟨rr, bl⟩
  · replace c2 := Bool.eq_false_iff.mpr c2
    subst c2
    have H1 : (if a0_1 = true then (some false) else (if a0_2 = true then (some false) else (if a0_3 = 0 then (if a0_4 = 0 then (if (l0_5.length : Int) = 0 then (if (l0_6.length : Int) = 0 then (if (a0_7 == 0 && (!a0_8 && (!a0_9 && (!a0_10)))) = true then (if a0_11 = (-1) then (if a0_12 = 0 then ((spec_l20None.f a0_13 a0_14 a0_15).bind fun t154 => (if t154 = true then ((spec_l20None.f a0_16 a0_17 a0_18).bind fun t155 => (some t155)) else (some false))) else (some false)) else (some false)) else (some false)) else (some false)) else (some false)) else (some false)) else (some false)))) = some r := by rw [if_neg (show ¬ (false = true) by decide)] at H; exact H
    clear H
    have H := H1
    clear H1
    by_cases c83 : a0_1 = true
    · subst c83
      rw [if_pos rfl] at H
      obtain rfl := Option.some.inj H
      as_aux_lemma =>
      go_enter Try.func49, Try.ntmps49
      go_wp2_with (first | ((with_reducible refine gate_load (t := 41) rfl ?_); refine load_all (g := gb153) (ty := 41) rfl rfl rfl (bx BK153.out) (by kernel_rfl) (by kernel_rfl) ?_; simp only [Act.put, List.setIfInBounds_toArray, List.set_cons_zero, List.set_cons_succ]) | ((with_reducible refine gate_dst (N := 1) rfl ?_); (try (refine gate_guard (by rfl) ?_; dsimp only)); refine box_event ?hg (N := 1) ?hd (cs := #[.bool false, .bool true, .bool a0_2, .int .i64 a0_3, .int .i64 a0_4, .slice A0_5 l0_5.length c0_5, .slice A0_6 l0_6.length c0_6, .int .i64 a0_7, .bool a0_8, .bool a0_9, .bool a0_10, .int .i64 a0_11, .int .i64 a0_12, .int .i64 a0_13, .int .i64 a0_14, .string a0_15, .int .i64 a0_16, .int .i64 a0_17, .string a0_18]) (t := 41) ?hr ?_; (case hd => rfl); (case hg => rfl); (case hr => first | (go_simp; done) | (go_simp; rfl)); intro gb153 hg w84 hbox hb; have n0_ := bs HB hb; have n1_ := Aside0.mk (hbox); have n2_ := bz hg; have n3_ := bz hg; clear HB; have HB := n0_; have BK153 := n1_; have GW153 := n2_; have GE153 := n3_; clear n0_ n1_ n2_ n3_; clear hb hbox hg; have hcz85_0 : ∀ i, w84.cell? ⟨gb153, i, none⟩ = _ := blk_cell BK153.out; have hfz85_0 := blk_frozen BK153.out))
      go_ret
      exact ⟨rr, bl⟩
    · replace c83 := Bool.eq_false_iff.mpr c83
      subst c83
      have H1 : (if a0_2 = true then (some false) else (if a0_3 = 0 then (if a0_4 = 0 then (if (l0_5.length : Int) = 0 then (if (l0_6.length : Int) = 0 then (if (a0_7 == 0 && (!a0_8 && (!a0_9 && (!a0_10)))) = true then (if a0_11 = (-1) then (if a0_12 = 0 then ((spec_l20None.f a0_13 a0_14 a0_15).bind fun t154 => (if t154 = true then ((spec_l20None.f a0_16 a0_17 a0_18).bind fun t155 => (some t155)) else (some false))) else (some false)) else (some false)) else (some false)) else (some false)) else (some false)) else (some false)) else (some false))) = some r := by rw [if_neg (show ¬ (false = true) by decide)] at H; exact H
      clear H
      have H := H1
      clear H1
      by_cases c86 : a0_2 = true
      · subst c86
        rw [if_pos rfl] at H
        obtain rfl := Option.some.inj H
        as_aux_lemma =>
        go_enter Try.func49, Try.ntmps49
        go_wp2_with (first | ((with_reducible refine gate_load (t := 41) rfl ?_); refine load_all (g := gb153) (ty := 41) rfl rfl rfl (bx BK153.out) (by kernel_rfl) (by kernel_rfl) ?_; simp only [Act.put, List.setIfInBounds_toArray, List.set_cons_zero, List.set_cons_succ]) | ((with_reducible refine gate_dst (N := 1) rfl ?_); (try (refine gate_guard (by rfl) ?_; dsimp only)); refine box_event ?hg (N := 1) ?hd (cs := #[.bool false, .bool false, .bool true, .int .i64 a0_3, .int .i64 a0_4, .slice A0_5 l0_5.length c0_5, .slice A0_6 l0_6.length c0_6, .int .i64 a0_7, .bool a0_8, .bool a0_9, .bool a0_10, .int .i64 a0_11, .int .i64 a0_12, .int .i64 a0_13, .int .i64 a0_14, .string a0_15, .int .i64 a0_16, .int .i64 a0_17, .string a0_18]) (t := 41) ?hr ?_; (case hd => rfl); (case hg => rfl); (case hr => first | (go_simp; done) | (go_simp; rfl)); intro gb153 hg w87 hbox hb; have n0_ := bs HB hb; have n1_ := Aside0.mk (hbox); have n2_ := bz hg; have n3_ := bz hg; clear HB; have HB := n0_; have BK153 := n1_; have GW153 := n2_; have GE153 := n3_; clear n0_ n1_ n2_ n3_; clear hb hbox hg; have hcz88_0 : ∀ i, w87.cell? ⟨gb153, i, none⟩ = _ := blk_cell BK153.out; have hfz88_0 := blk_frozen BK153.out))
        go_ret
        exact ⟨rr, bl⟩
      · replace c86 := Bool.eq_false_iff.mpr c86
        subst c86
        have H1 : (if a0_3 = 0 then (if a0_4 = 0 then (if (l0_5.length : Int) = 0 then (if (l0_6.length : Int) = 0 then (if (a0_7 == 0 && (!a0_8 && (!a0_9 && (!a0_10)))) = true then (if a0_11 = (-1) then (if a0_12 = 0 then ((spec_l20None.f a0_13 a0_14 a0_15).bind fun t154 => (if t154 = true then ((spec_l20None.f a0_16 a0_17 a0_18).bind fun t155 => (some t155)) else (some false))) else (some false)) else (some false)) else (some false)) else (some false)) else (some false)) else (some false)) else (some false)) = some r := by rw [if_neg (show ¬ (false = true) by decide)] at H; exact H
        clear H
        have H := H1
        clear H1
        by_cases c89 : a0_3 = 0
        · rw [if_pos c89] at H
          have c89b0 : (a0_3 == 0) = true := beq_iff_eq.mpr c89
          have c89b1 : (a0_3 != 0) = false := bne_eq_false_iff_eq.mpr c89
          clear c89
          by_cases c90 : a0_4 = 0
          · rw [if_pos c90] at H
            have c90b0 : (a0_4 == 0) = true := beq_iff_eq.mpr c90
            have c90b1 : (a0_4 != 0) = false := bne_eq_false_iff_eq.mpr c90
            clear c90
            by_cases c91 : (l0_5.length : Int) = 0
            · rw [if_pos c91] at H
              have c91b0 : ((l0_5.length : Int) == 0) = true := beq_iff_eq.mpr c91
              have c91b1 : ((l0_5.length : Int) != 0) = false := bne_eq_false_iff_eq.mpr c91
              clear c91
              by_cases c92 : (l0_6.length : Int) = 0
              · rw [if_pos c92] at H
                have c92b0 : ((l0_6.length : Int) == 0) = true := beq_iff_eq.mpr c92
                have c92b1 : ((l0_6.length : Int) != 0) = false := bne_eq_false_iff_eq.mpr c92
                clear c92
                by_cases c93 : (a0_7 == 0 && (!a0_8 && (!a0_9 && (!a0_10)))) = true
                · rw [if_pos c93] at H
                  have c93b0 : (a0_7 == 0 && (!a0_8 && (!a0_9 && (!a0_10)))) = true := c93
                  (try (have c93b1 : decide (a0_7 = 0 && (!a0_8 && (!a0_9 && (!a0_10)))) = true := by simpa using c93))
                  (try (have c93b2 : (a0_7 == 0 && (!a0_8 && (!a0_9 && (!a0_10)))) = true := by simpa using c93))
                  clear c93
                  by_cases c94 : a0_11 = (-1)
                  · rw [if_pos c94] at H
                    have c94b0 : (a0_11 == (-1)) = true := beq_iff_eq.mpr c94
                    have c94b1 : (a0_11 != (-1)) = false := bne_eq_false_iff_eq.mpr c94
                    clear c94
                    by_cases c95 : a0_12 = 0
                    · rw [if_pos c95] at H
                      have c95b0 : (a0_12 == 0) = true := beq_iff_eq.mpr c95
                      have c95b1 : (a0_12 != 0) = false := bne_eq_false_iff_eq.mpr c95
                      clear c95
                      replace H := Option.bind_eq_some_iff.mp H
                      obtain ⟨t154, A960, H⟩ := H
                      (try dsimp only at H)
                      have A96 := Aside0.mk A960
                      clear A960
                      by_cases c97 : t154 = true
                      · subst c97
                        rw [if_pos rfl] at H
                        replace H := Option.bind_eq_some_iff.mp H
                        obtain ⟨t155, A980, H⟩ := H
                        (try dsimp only at H)
                        have A98 := Aside0.mk A980
                        clear A980
                        obtain rfl := Option.some.inj H
                        as_aux_lemma =>
                        go_enter Try.func49, Try.ntmps49
                        go_wp2_with (first | ((with_reducible refine gate_load (t := 41) rfl ?_); refine load_all (g := gb153) (ty := 41) rfl rfl rfl (bx BK153.out) (by kernel_rfl) (by kernel_rfl) ?_; simp only [Act.put, List.setIfInBounds_toArray, List.set_cons_zero, List.set_cons_succ]) | ((with_reducible refine gate_dst (N := 1) rfl ?_); (try (refine gate_guard (by rfl) ?_; dsimp only)); refine box_event ?hg (N := 1) ?hd (cs := #[.bool false, .bool false, .bool false, .int .i64 a0_3, .int .i64 a0_4, .slice A0_5 l0_5.length c0_5, .slice A0_6 l0_6.length c0_6, .int .i64 a0_7, .bool a0_8, .bool a0_9, .bool a0_10, .int .i64 a0_11, .int .i64 a0_12, .int .i64 a0_13, .int .i64 a0_14, .string a0_15, .int .i64 a0_16, .int .i64 a0_17, .string a0_18]) (t := 41) ?hr ?_; (case hd => rfl); (case hg => rfl); (case hr => first | (go_simp; done) | (go_simp; rfl)); intro gb153 hg w99 hbox hb; have n0_ := bs HB hb; have n1_ := Aside0.mk (hbox); have n2_ := bz hg; have n3_ := bz hg; clear HB; have HB := n0_; have BK153 := n1_; have GW153 := n2_; have GE153 := n3_; clear n0_ n1_ n2_ n3_; clear hb hbox hg; have hcz100_0 : ∀ i, w99.cell? ⟨gb153, i, none⟩ = _ := blk_cell BK153.out; have hfz100_0 := blk_frozen BK153.out) | (go_at_call 112; (with_reducible refine (spec_l20None.calls a0_13 a0_14 a0_15 true _ A96.out).mono ?_); rintro e w101 ⟨rfl, hb⟩; have n0_ := Aside0.mk (blk_below (bx BK153.out) hb); have n1_ := bs HB hb; clear BK153; clear HB; have BK153 := n0_; have HB := n1_; clear n0_ n1_; (try clear hb); (try clear hb2); (try clear hk); (try clear hi); have hcz102_0 : ∀ i, w101.cell? ⟨gb153, i, none⟩ = _ := blk_cell BK153.out; have hfz102_0 := blk_frozen BK153.out) | (go_at_call 112; (with_reducible refine (spec_l20None.calls a0_16 a0_17 a0_18 t155 _ A98.out).mono ?_); rintro e w103 ⟨rfl, hb⟩; have n0_ := Aside0.mk (blk_below (bx BK153.out) hb); have n1_ := bs HB hb; clear BK153; clear HB; have BK153 := n0_; have HB := n1_; clear n0_ n1_; (try clear hb); (try clear hb2); (try clear hk); (try clear hi)))
                        go_ret
                        exact ⟨rr, bl⟩
                      · replace c97 := Bool.eq_false_iff.mpr c97
                        subst c97
                        have H1 : (some false) = some r := by rw [if_neg (show ¬ (false = true) by decide)] at H; exact H
                        clear H
                        have H := H1
                        clear H1
                        obtain rfl := Option.some.inj H
                        as_aux_lemma =>
                        go_enter Try.func49, Try.ntmps49
                        go_wp2_with (first | ((with_reducible refine gate_load (t := 41) rfl ?_); refine load_all (g := gb153) (ty := 41) rfl rfl rfl (bx BK153.out) (by kernel_rfl) (by kernel_rfl) ?_; simp only [Act.put, List.setIfInBounds_toArray, List.set_cons_zero, List.set_cons_succ]) | ((with_reducible refine gate_dst (N := 1) rfl ?_); (try (refine gate_guard (by rfl) ?_; dsimp only)); refine box_event ?hg (N := 1) ?hd (cs := #[.bool false, .bool false, .bool false, .int .i64 a0_3, .int .i64 a0_4, .slice A0_5 l0_5.length c0_5, .slice A0_6 l0_6.length c0_6, .int .i64 a0_7, .bool a0_8, .bool a0_9, .bool a0_10, .int .i64 a0_11, .int .i64 a0_12, .int .i64 a0_13, .int .i64 a0_14, .string a0_15, .int .i64 a0_16, .int .i64 a0_17, .string a0_18]) (t := 41) ?hr ?_; (case hd => rfl); (case hg => rfl); (case hr => first | (go_simp; done) | (go_simp; rfl)); intro gb153 hg w104 hbox hb; have n0_ := bs HB hb; have n1_ := Aside0.mk (hbox); have n2_ := bz hg; have n3_ := bz hg; clear HB; have HB := n0_; have BK153 := n1_; have GW153 := n2_; have GE153 := n3_; clear n0_ n1_ n2_ n3_; clear hb hbox hg; have hcz105_0 : ∀ i, w104.cell? ⟨gb153, i, none⟩ = _ := blk_cell BK153.out; have hfz105_0 := blk_frozen BK153.out) | (go_at_call 112; (with_reducible refine (spec_l20None.calls a0_13 a0_14 a0_15 false _ A96.out).mono ?_); rintro e w106 ⟨rfl, hb⟩; have n0_ := Aside0.mk (blk_below (bx BK153.out) hb); have n1_ := bs HB hb; clear BK153; clear HB; have BK153 := n0_; have HB := n1_; clear n0_ n1_; (try clear hb); (try clear hb2); (try clear hk); (try clear hi)))
                        go_ret
                        exact ⟨rr, bl⟩
                    · rw [if_neg c95] at H
                      have c95b0 : (a0_12 == 0) = false := beq_eq_false_iff_ne.mpr c95
                      have c95b1 : (a0_12 != 0) = true := bne_iff_ne.mpr c95
                      obtain rfl := Option.some.inj H
                      as_aux_lemma =>
                      go_enter Try.func49, Try.ntmps49
                      go_wp2_with (first | ((with_reducible refine gate_load (t := 41) rfl ?_); refine load_all (g := gb153) (ty := 41) rfl rfl rfl (bx BK153.out) (by kernel_rfl) (by kernel_rfl) ?_; simp only [Act.put, List.setIfInBounds_toArray, List.set_cons_zero, List.set_cons_succ]) | ((with_reducible refine gate_dst (N := 1) rfl ?_); (try (refine gate_guard (by rfl) ?_; dsimp only)); refine box_event ?hg (N := 1) ?hd (cs := #[.bool false, .bool false, .bool false, .int .i64 a0_3, .int .i64 a0_4, .slice A0_5 l0_5.length c0_5, .slice A0_6 l0_6.length c0_6, .int .i64 a0_7, .bool a0_8, .bool a0_9, .bool a0_10, .int .i64 a0_11, .int .i64 a0_12, .int .i64 a0_13, .int .i64 a0_14, .string a0_15, .int .i64 a0_16, .int .i64 a0_17, .string a0_18]) (t := 41) ?hr ?_; (case hd => rfl); (case hg => rfl); (case hr => first | (go_simp; done) | (go_simp; rfl)); intro gb153 hg w107 hbox hb; have n0_ := bs HB hb; have n1_ := Aside0.mk (hbox); have n2_ := bz hg; have n3_ := bz hg; clear HB; have HB := n0_; have BK153 := n1_; have GW153 := n2_; have GE153 := n3_; clear n0_ n1_ n2_ n3_; clear hb hbox hg; have hcz108_0 : ∀ i, w107.cell? ⟨gb153, i, none⟩ = _ := blk_cell BK153.out; have hfz108_0 := blk_frozen BK153.out))
                      go_ret
                      exact ⟨rr, bl⟩
                  · rw [if_neg c94] at H
                    have c94b0 : (a0_11 == (-1)) = false := beq_eq_false_iff_ne.mpr c94
                    have c94b1 : (a0_11 != (-1)) = true := bne_iff_ne.mpr c94
                    obtain rfl := Option.some.inj H
                    as_aux_lemma =>
                    go_enter Try.func49, Try.ntmps49
                    go_wp2_with (first | ((with_reducible refine gate_load (t := 41) rfl ?_); refine load_all (g := gb153) (ty := 41) rfl rfl rfl (bx BK153.out) (by kernel_rfl) (by kernel_rfl) ?_; simp only [Act.put, List.setIfInBounds_toArray, List.set_cons_zero, List.set_cons_succ]) | ((with_reducible refine gate_dst (N := 1) rfl ?_); (try (refine gate_guard (by rfl) ?_; dsimp only)); refine box_event ?hg (N := 1) ?hd (cs := #[.bool false, .bool false, .bool false, .int .i64 a0_3, .int .i64 a0_4, .slice A0_5 l0_5.length c0_5, .slice A0_6 l0_6.length c0_6, .int .i64 a0_7, .bool a0_8, .bool a0_9, .bool a0_10, .int .i64 a0_11, .int .i64 a0_12, .int .i64 a0_13, .int .i64 a0_14, .string a0_15, .int .i64 a0_16, .int .i64 a0_17, .string a0_18]) (t := 41) ?hr ?_; (case hd => rfl); (case hg => rfl); (case hr => first | (go_simp; done) | (go_simp; rfl)); intro gb153 hg w109 hbox hb; have n0_ := bs HB hb; have n1_ := Aside0.mk (hbox); have n2_ := bz hg; have n3_ := bz hg; clear HB; have HB := n0_; have BK153 := n1_; have GW153 := n2_; have GE153 := n3_; clear n0_ n1_ n2_ n3_; clear hb hbox hg; have hcz110_0 : ∀ i, w109.cell? ⟨gb153, i, none⟩ = _ := blk_cell BK153.out; have hfz110_0 := blk_frozen BK153.out))
                    go_ret
                    exact ⟨rr, bl⟩
                · rw [if_neg c93] at H
                  have c93b0 : (a0_7 == 0 && (!a0_8 && (!a0_9 && (!a0_10)))) = false := by simpa using c93
                  (try (have c93b1 : decide (a0_7 = 0 && (!a0_8 && (!a0_9 && (!a0_10)))) = false := by simpa using c93))
                  (try (have c93b2 : (a0_7 == 0 && (!a0_8 && (!a0_9 && (!a0_10)))) = false := by simpa using c93))
                  (try (have c93b3 : ¬ (a0_7 = 0 && (!a0_8 && (!a0_9 && (!a0_10)))) := by simpa using c93))
                  clear c93
                  obtain rfl := Option.some.inj H
                  as_aux_lemma =>
                  go_enter Try.func49, Try.ntmps49
                  go_wp2_with (first | ((with_reducible refine gate_load (t := 41) rfl ?_); refine load_all (g := gb153) (ty := 41) rfl rfl rfl (bx BK153.out) (by kernel_rfl) (by kernel_rfl) ?_; simp only [Act.put, List.setIfInBounds_toArray, List.set_cons_zero, List.set_cons_succ]) | ((with_reducible refine gate_dst (N := 1) rfl ?_); (try (refine gate_guard (by rfl) ?_; dsimp only)); refine box_event ?hg (N := 1) ?hd (cs := #[.bool false, .bool false, .bool false, .int .i64 a0_3, .int .i64 a0_4, .slice A0_5 l0_5.length c0_5, .slice A0_6 l0_6.length c0_6, .int .i64 a0_7, .bool a0_8, .bool a0_9, .bool a0_10, .int .i64 a0_11, .int .i64 a0_12, .int .i64 a0_13, .int .i64 a0_14, .string a0_15, .int .i64 a0_16, .int .i64 a0_17, .string a0_18]) (t := 41) ?hr ?_; (case hd => rfl); (case hg => rfl); (case hr => first | (go_simp; done) | (go_simp; rfl)); intro gb153 hg w111 hbox hb; have n0_ := bs HB hb; have n1_ := Aside0.mk (hbox); have n2_ := bz hg; have n3_ := bz hg; clear HB; have HB := n0_; have BK153 := n1_; have GW153 := n2_; have GE153 := n3_; clear n0_ n1_ n2_ n3_; clear hb hbox hg; have hcz112_0 : ∀ i, w111.cell? ⟨gb153, i, none⟩ = _ := blk_cell BK153.out; have hfz112_0 := blk_frozen BK153.out))
                  go_ret
                  exact ⟨rr, bl⟩
              · rw [if_neg c92] at H
                have c92b0 : ((l0_6.length : Int) == 0) = false := beq_eq_false_iff_ne.mpr c92
                have c92b1 : ((l0_6.length : Int) != 0) = true := bne_iff_ne.mpr c92
                have c92b2 : ¬ (l0_6 = []) := fun h_ => c92 (by rw [h_]; rfl)
                obtain rfl := Option.some.inj H
                as_aux_lemma =>
                go_enter Try.func49, Try.ntmps49
                go_wp2_with (first | ((with_reducible refine gate_load (t := 41) rfl ?_); refine load_all (g := gb153) (ty := 41) rfl rfl rfl (bx BK153.out) (by kernel_rfl) (by kernel_rfl) ?_; simp only [Act.put, List.setIfInBounds_toArray, List.set_cons_zero, List.set_cons_succ]) | ((with_reducible refine gate_dst (N := 1) rfl ?_); (try (refine gate_guard (by rfl) ?_; dsimp only)); refine box_event ?hg (N := 1) ?hd (cs := #[.bool false, .bool false, .bool false, .int .i64 a0_3, .int .i64 a0_4, .slice A0_5 l0_5.length c0_5, .slice A0_6 l0_6.length c0_6, .int .i64 a0_7, .bool a0_8, .bool a0_9, .bool a0_10, .int .i64 a0_11, .int .i64 a0_12, .int .i64 a0_13, .int .i64 a0_14, .string a0_15, .int .i64 a0_16, .int .i64 a0_17, .string a0_18]) (t := 41) ?hr ?_; (case hd => rfl); (case hg => rfl); (case hr => first | (go_simp; done) | (go_simp; rfl)); intro gb153 hg w113 hbox hb; have n0_ := bs HB hb; have n1_ := Aside0.mk (hbox); have n2_ := bz hg; have n3_ := bz hg; clear HB; have HB := n0_; have BK153 := n1_; have GW153 := n2_; have GE153 := n3_; clear n0_ n1_ n2_ n3_; clear hb hbox hg; have hcz114_0 : ∀ i, w113.cell? ⟨gb153, i, none⟩ = _ := blk_cell BK153.out; have hfz114_0 := blk_frozen BK153.out))
                go_ret
                exact ⟨rr, bl⟩
            · rw [if_neg c91] at H
              have c91b0 : ((l0_5.length : Int) == 0) = false := beq_eq_false_iff_ne.mpr c91
              have c91b1 : ((l0_5.length : Int) != 0) = true := bne_iff_ne.mpr c91
              have c91b2 : ¬ (l0_5 = []) := fun h_ => c91 (by rw [h_]; rfl)
              obtain rfl := Option.some.inj H
              as_aux_lemma =>
              go_enter Try.func49, Try.ntmps49
              go_wp2_with (first | ((with_reducible refine gate_load (t := 41) rfl ?_); refine load_all (g := gb153) (ty := 41) rfl rfl rfl (bx BK153.out) (by kernel_rfl) (by kernel_rfl) ?_; simp only [Act.put, List.setIfInBounds_toArray, List.set_cons_zero, List.set_cons_succ]) | ((with_reducible refine gate_dst (N := 1) rfl ?_); (try (refine gate_guard (by rfl) ?_; dsimp only)); refine box_event ?hg (N := 1) ?hd (cs := #[.bool false, .bool false, .bool false, .int .i64 a0_3, .int .i64 a0_4, .slice A0_5 l0_5.length c0_5, .slice A0_6 l0_6.length c0_6, .int .i64 a0_7, .bool a0_8, .bool a0_9, .bool a0_10, .int .i64 a0_11, .int .i64 a0_12, .int .i64 a0_13, .int .i64 a0_14, .string a0_15, .int .i64 a0_16, .int .i64 a0_17, .string a0_18]) (t := 41) ?hr ?_; (case hd => rfl); (case hg => rfl); (case hr => first | (go_simp; done) | (go_simp; rfl)); intro gb153 hg w115 hbox hb; have n0_ := bs HB hb; have n1_ := Aside0.mk (hbox); have n2_ := bz hg; have n3_ := bz hg; clear HB; have HB := n0_; have BK153 := n1_; have GW153 := n2_; have GE153 := n3_; clear n0_ n1_ n2_ n3_; clear hb hbox hg; have hcz116_0 : ∀ i, w115.cell? ⟨gb153, i, none⟩ = _ := blk_cell BK153.out; have hfz116_0 := blk_frozen BK153.out))
              go_ret
              exact ⟨rr, bl⟩
          · rw [if_neg c90] at H
            have c90b0 : (a0_4 == 0) = false := beq_eq_false_iff_ne.mpr c90
            have c90b1 : (a0_4 != 0) = true := bne_iff_ne.mpr c90
            obtain rfl := Option.some.inj H
            as_aux_lemma =>
            go_enter Try.func49, Try.ntmps49
            go_wp2_with (first | ((with_reducible refine gate_load (t := 41) rfl ?_); refine load_all (g := gb153) (ty := 41) rfl rfl rfl (bx BK153.out) (by kernel_rfl) (by kernel_rfl) ?_; simp only [Act.put, List.setIfInBounds_toArray, List.set_cons_zero, List.set_cons_succ]) | ((with_reducible refine gate_dst (N := 1) rfl ?_); (try (refine gate_guard (by rfl) ?_; dsimp only)); refine box_event ?hg (N := 1) ?hd (cs := #[.bool false, .bool false, .bool false, .int .i64 a0_3, .int .i64 a0_4, .slice A0_5 l0_5.length c0_5, .slice A0_6 l0_6.length c0_6, .int .i64 a0_7, .bool a0_8, .bool a0_9, .bool a0_10, .int .i64 a0_11, .int .i64 a0_12, .int .i64 a0_13, .int .i64 a0_14, .string a0_15, .int .i64 a0_16, .int .i64 a0_17, .string a0_18]) (t := 41) ?hr ?_; (case hd => rfl); (case hg => rfl); (case hr => first | (go_simp; done) | (go_simp; rfl)); intro gb153 hg w117 hbox hb; have n0_ := bs HB hb; have n1_ := Aside0.mk (hbox); have n2_ := bz hg; have n3_ := bz hg; clear HB; have HB := n0_; have BK153 := n1_; have GW153 := n2_; have GE153 := n3_; clear n0_ n1_ n2_ n3_; clear hb hbox hg; have hcz118_0 : ∀ i, w117.cell? ⟨gb153, i, none⟩ = _ := blk_cell BK153.out; have hfz118_0 := blk_frozen BK153.out))
            go_ret
            exact ⟨rr, bl⟩
        · rw [if_neg c89] at H
          have c89b0 : (a0_3 == 0) = false := beq_eq_false_iff_ne.mpr c89
          have c89b1 : (a0_3 != 0) = true := bne_iff_ne.mpr c89
          obtain rfl := Option.some.inj H
          as_aux_lemma =>
          go_enter Try.func49, Try.ntmps49
          go_wp2_with (first | ((with_reducible refine gate_load (t := 41) rfl ?_); refine load_all (g := gb153) (ty := 41) rfl rfl rfl (bx BK153.out) (by kernel_rfl) (by kernel_rfl) ?_; simp only [Act.put, List.setIfInBounds_toArray, List.set_cons_zero, List.set_cons_succ]) | ((with_reducible refine gate_dst (N := 1) rfl ?_); (try (refine gate_guard (by rfl) ?_; dsimp only)); refine box_event ?hg (N := 1) ?hd (cs := #[.bool false, .bool false, .bool false, .int .i64 a0_3, .int .i64 a0_4, .slice A0_5 l0_5.length c0_5, .slice A0_6 l0_6.length c0_6, .int .i64 a0_7, .bool a0_8, .bool a0_9, .bool a0_10, .int .i64 a0_11, .int .i64 a0_12, .int .i64 a0_13, .int .i64 a0_14, .string a0_15, .int .i64 a0_16, .int .i64 a0_17, .string a0_18]) (t := 41) ?hr ?_; (case hd => rfl); (case hg => rfl); (case hr => first | (go_simp; done) | (go_simp; rfl)); intro gb153 hg w119 hbox hb; have n0_ := bs HB hb; have n1_ := Aside0.mk (hbox); have n2_ := bz hg; have n3_ := bz hg; clear HB; have HB := n0_; have BK153 := n1_; have GW153 := n2_; have GE153 := n3_; clear n0_ n1_ n2_ n3_; clear hb hbox hg; have hcz120_0 : ∀ i, w119.cell? ⟨gb153, i, none⟩ = _ := blk_cell BK153.out; have hfz120_0 := blk_frozen BK153.out))
          go_ret
          exact ⟨rr, bl⟩

end Go.Proofs.Ytlfbcmhjopichaa.QFnExactDecOk
