/- Contracts of the functions that a law reaches: each Go function comes to what its Lean function tells. Written by this session's own program. Conditions: as each statement tells. -/
import Derived.Test.YtlfbcmhjopichaaQFnExactDecOkx0
import Derived.Test.YtlfbcmhjopichaaQFnExactDecOkx1
import Derived.Test.YtlfbcmhjopichaaQFnExactDecOkx2
import Derived.Test.YtlfbcmhjopichaaQFnExactDecOkx7
import Derived.Test.YtlfbcmhjopichaaQFnExactDecOkx8
namespace Go.Proofs.Ytlfbcmhjopichaa.QFnExactDecOk
open Go.RowKit Go.Proofs.YtlfbcmhjopichaaW.PrintWords Go.Proofs.YtlfbcmhjopichaaW.PrintLast Go.Proofs.YtlfbcmhjopichaaW.PrintMore
attribute [local go_sem] i64_w i32_w w64_m256 max2_int min2_int max_two min_two max_three min_three max_four min_four   -- for this text's walks alone
set_option linter.unusedVariables false
set_option linter.unusedSimpArgs false

attribute [local go_sem high] eqA37 eqA39
/-! ### impl_DecOk: function 51 -/
mutual
def impl_DecOk.j0 : Nat → Bool → Bool → Bool → Bool → Int → Int → List Int → List Int → Int → Bool → Bool → Bool → Int → Int → Int → Int → ByteArray → Int → Int → ByteArray → Option (Bool)
  | 0, _, _, _, _, _, _, _, _, _, _, _, _, _, _, _, _, _, _, _, _ => none
  | k + 1, x80, x244000, x244001, x244002, x244003, x244004, x244005, x244006, x244007, x244008, x244009, x244010, x244011, x244012, x244013, x244014, x244015, x244016, x244017, x244018 => if x80 = true then (some false) else (if 0 ≤ x244004 then ((impl_within.f x244011 (-1) (wrap64 ((shl .i64 1 x244004) - 1))).bind fun t247 => (if t247 = true then ((impl_TilesOf.f k x244003 x244004 x244005 x244006).bind fun t248 => ((impl_within.f x244012 0 (wrap64 (t248 - 1))).bind fun t249 => (impl_DecOk.j1 k (!t249) x244000 x244001 x244002 x244003 x244004 x244005 x244006 x244007 x244008 x244009 x244010 x244011 x244012 x244013 x244014 x244015 x244016 x244017 x244018))) else (impl_DecOk.j1 k true x244000 x244001 x244002 x244003 x244004 x244005 x244006 x244007 x244008 x244009 x244010 x244011 x244012 x244013 x244014 x244015 x244016 x244017 x244018))) else (none))
def impl_DecOk.j1 : Nat → Bool → Bool → Bool → Bool → Int → Int → List Int → List Int → Int → Bool → Bool → Bool → Int → Int → Int → Int → ByteArray → Int → Int → ByteArray → Option (Bool)
  | 0, _, _, _, _, _, _, _, _, _, _, _, _, _, _, _, _, _, _, _, _ => none
  | k + 1, x99, x244000, x244001, x244002, x244003, x244004, x244005, x244006, x244007, x244008, x244009, x244010, x244011, x244012, x244013, x244014, x244015, x244016, x244017, x244018 => if x99 = true then (some false) else (if x244012 > 0 then (if x244011 = (-1) then (impl_DecOk.j2 k true x244000 x244001 x244002 x244003 x244004 x244005 x244006 x244007 x244008 x244009 x244010 x244011 x244012 x244013 x244014 x244015 x244016 x244017 x244018) else ((impl_fits.f k x244013 x244014 x244015 x244003 x244004 x244005 x244006).bind fun t250 => (if t250 = true then (if x244012 = 0 then (impl_DecOk.j2 k (!(x244013 == 0) || (!(x244014 == 0) || (!(x244015.toList == ([] : List UInt8))))) x244000 x244001 x244002 x244003 x244004 x244005 x244006 x244007 x244008 x244009 x244010 x244011 x244012 x244013 x244014 x244015 x244016 x244017 x244018) else (impl_DecOk.j2 k false x244000 x244001 x244002 x244003 x244004 x244005 x244006 x244007 x244008 x244009 x244010 x244011 x244012 x244013 x244014 x244015 x244016 x244017 x244018)) else (impl_DecOk.j2 k true x244000 x244001 x244002 x244003 x244004 x244005 x244006 x244007 x244008 x244009 x244010 x244011 x244012 x244013 x244014 x244015 x244016 x244017 x244018)))) else (if x244012 = 0 then (impl_DecOk.j2 k (!(x244013 == 0) || (!(x244014 == 0) || (!(x244015.toList == ([] : List UInt8))))) x244000 x244001 x244002 x244003 x244004 x244005 x244006 x244007 x244008 x244009 x244010 x244011 x244012 x244013 x244014 x244015 x244016 x244017 x244018) else (impl_DecOk.j2 k false x244000 x244001 x244002 x244003 x244004 x244005 x244006 x244007 x244008 x244009 x244010 x244011 x244012 x244013 x244014 x244015 x244016 x244017 x244018)))
def impl_DecOk.j2 : Nat → Bool → Bool → Bool → Bool → Int → Int → List Int → List Int → Int → Bool → Bool → Bool → Int → Int → Int → Int → ByteArray → Int → Int → ByteArray → Option (Bool)
  | 0, _, _, _, _, _, _, _, _, _, _, _, _, _, _, _, _, _, _, _, _ => none
  | k + 1, x126, x244000, x244001, x244002, x244003, x244004, x244005, x244006, x244007, x244008, x244009, x244010, x244011, x244012, x244013, x244014, x244015, x244016, x244017, x244018 => if x126 = true then (some false) else (if x244002 = true then ((impl_fits.f k x244016 x244017 x244018 x244003 x244004 x244005 x244006).bind fun t251 => (some t251)) else (some (x244016 == 0 && (x244017 == 0 && (x244018.toList == ([] : List UInt8))))))
end
def impl_DecOk.f (k : Nat) (a0_0 : Bool) (a0_1 : Bool) (a0_2 : Bool) (a0_3 : Int) (a0_4 : Int) (l0_5 : List Int) (l0_6 : List Int) (a0_7 : Int) (a0_8 : Bool) (a0_9 : Bool) (a0_10 : Bool) (a0_11 : Int) (a0_12 : Int) (a0_13 : Int) (a0_14 : Int) (a0_15 : ByteArray) (a0_16 : Int) (a0_17 : Int) (a0_18 : ByteArray) : Option (Bool) := if a0_0 = true then ((impl_SeqOk.f k a0_3 a0_4 l0_5 l0_6).bind fun t245 => (if t245 = true then (if a0_1 = true then ((impl_ParOk.f a0_7 a0_8 a0_9 a0_10).bind fun t246 => (if t246 = true then (impl_DecOk.j0 k false a0_0 a0_1 a0_2 a0_3 a0_4 l0_5 l0_6 a0_7 a0_8 a0_9 a0_10 a0_11 a0_12 a0_13 a0_14 a0_15 a0_16 a0_17 a0_18) else (impl_DecOk.j0 k true a0_0 a0_1 a0_2 a0_3 a0_4 l0_5 l0_6 a0_7 a0_8 a0_9 a0_10 a0_11 a0_12 a0_13 a0_14 a0_15 a0_16 a0_17 a0_18))) else (if (!(a0_7 == 0) || (a0_8 || (a0_9 || (a0_10)))) = true then (impl_DecOk.j0 k true a0_0 a0_1 a0_2 a0_3 a0_4 l0_5 l0_6 a0_7 a0_8 a0_9 a0_10 a0_11 a0_12 a0_13 a0_14 a0_15 a0_16 a0_17 a0_18) else (if a0_12 = 0 then (impl_DecOk.j0 k a0_2 a0_0 a0_1 a0_2 a0_3 a0_4 l0_5 l0_6 a0_7 a0_8 a0_9 a0_10 a0_11 a0_12 a0_13 a0_14 a0_15 a0_16 a0_17 a0_18) else (impl_DecOk.j0 k true a0_0 a0_1 a0_2 a0_3 a0_4 l0_5 l0_6 a0_7 a0_8 a0_9 a0_10 a0_11 a0_12 a0_13 a0_14 a0_15 a0_16 a0_17 a0_18)))) else (impl_DecOk.j0 k true a0_0 a0_1 a0_2 a0_3 a0_4 l0_5 l0_6 a0_7 a0_8 a0_9 a0_10 a0_11 a0_12 a0_13 a0_14 a0_15 a0_16 a0_17 a0_18))) else (if a0_1 = true then (some false) else (if a0_2 = true then (some false) else ((impl_isNoSeq.f a0_3 a0_4 l0_5 l0_6).bind fun t244 => (if t244 = true then (if (a0_7 == 0 && (!a0_8 && (!a0_9 && (!a0_10)))) = true then (if a0_11 = (-1) then (if a0_12 = 0 then (if (a0_13 == 0 && (a0_14 == 0 && (a0_15.toList == ([] : List UInt8)))) = true then (some (a0_16 == 0 && (a0_17 == 0 && (a0_18.toList == ([] : List UInt8))))) else (some false)) else (some false)) else (some false)) else (some false)) else (some false)))))
theorem impl_DecOk.mono_l : ∀ k, (∀ y0 y1 y2 y3 y4 y5 y6 y7 y8 y9 y10 y11 y12 y13 y14 y15 y16 y17 y18 y19, LeO (impl_DecOk.j0 k y0 y1 y2 y3 y4 y5 y6 y7 y8 y9 y10 y11 y12 y13 y14 y15 y16 y17 y18 y19) (impl_DecOk.j0 (k + 1) y0 y1 y2 y3 y4 y5 y6 y7 y8 y9 y10 y11 y12 y13 y14 y15 y16 y17 y18 y19)) ∧ (∀ y0 y1 y2 y3 y4 y5 y6 y7 y8 y9 y10 y11 y12 y13 y14 y15 y16 y17 y18 y19, LeO (impl_DecOk.j1 k y0 y1 y2 y3 y4 y5 y6 y7 y8 y9 y10 y11 y12 y13 y14 y15 y16 y17 y18 y19) (impl_DecOk.j1 (k + 1) y0 y1 y2 y3 y4 y5 y6 y7 y8 y9 y10 y11 y12 y13 y14 y15 y16 y17 y18 y19)) ∧ (∀ y0 y1 y2 y3 y4 y5 y6 y7 y8 y9 y10 y11 y12 y13 y14 y15 y16 y17 y18 y19, LeO (impl_DecOk.j2 k y0 y1 y2 y3 y4 y5 y6 y7 y8 y9 y10 y11 y12 y13 y14 y15 y16 y17 y18 y19) (impl_DecOk.j2 (k + 1) y0 y1 y2 y3 y4 y5 y6 y7 y8 y9 y10 y11 y12 y13 y14 y15 y16 y17 y18 y19))
  | 0 => ⟨fun _ _ _ _ _ _ _ _ _ _ _ _ _ _ _ _ _ _ _ _ r h => by simp [impl_DecOk.j0] at h, fun _ _ _ _ _ _ _ _ _ _ _ _ _ _ _ _ _ _ _ _ r h => by simp [impl_DecOk.j1] at h, fun _ _ _ _ _ _ _ _ _ _ _ _ _ _ _ _ _ _ _ _ r h => by simp [impl_DecOk.j2] at h⟩
  | k + 1 => by
    obtain ⟨ih0, ih1, ih2⟩ := impl_DecOk.mono_l k
    refine ⟨?_, ?_, ?_⟩
    · intro y0 y1 y2 y3 y4 y5 y6 y7 y8 y9 y10 y11 y12 y13 y14 y15 y16 y17 y18 y19
      unfold impl_DecOk.j0
      repeat' first
      | (with_reducible exact ih0 _ _ _ _ _ _ _ _ _ _ _ _ _ _ _ _ _ _ _ _)
      | (with_reducible exact ih1 _ _ _ _ _ _ _ _ _ _ _ _ _ _ _ _ _ _ _ _)
      | (with_reducible exact ih2 _ _ _ _ _ _ _ _ _ _ _ _ _ _ _ _ _ _ _ _)
      | (with_reducible exact impl_SeqOk.mono _ _ _ _ _)
      | (with_reducible exact impl_TilesOf.mono _ _ _ _ _)
      | (with_reducible exact impl_fits.mono _ _ _ _ _ _ _ _)
      | (with_reducible exact LeO.refl _)
      | (with_reducible exact LeO.none _)
      | (with_reducible refine LeO.ite ?_ ?_)
      | (with_reducible refine LeO.bind ?_ (fun _ => ?_))
      | exact ih0 _ _ _ _ _ _ _ _ _ _ _ _ _ _ _ _ _ _ _ _
      | exact ih1 _ _ _ _ _ _ _ _ _ _ _ _ _ _ _ _ _ _ _ _
      | exact ih2 _ _ _ _ _ _ _ _ _ _ _ _ _ _ _ _ _ _ _ _
      | exact impl_SeqOk.mono _ _ _ _ _
      | exact impl_TilesOf.mono _ _ _ _ _
      | exact impl_fits.mono _ _ _ _ _ _ _ _
      | exact LeO.none _
      | refine LeO.ite ?_ ?_
      | refine LeO.bind ?_ (fun _ => ?_)
    · intro y0 y1 y2 y3 y4 y5 y6 y7 y8 y9 y10 y11 y12 y13 y14 y15 y16 y17 y18 y19
      unfold impl_DecOk.j1
      repeat' first
      | (with_reducible exact ih0 _ _ _ _ _ _ _ _ _ _ _ _ _ _ _ _ _ _ _ _)
      | (with_reducible exact ih1 _ _ _ _ _ _ _ _ _ _ _ _ _ _ _ _ _ _ _ _)
      | (with_reducible exact ih2 _ _ _ _ _ _ _ _ _ _ _ _ _ _ _ _ _ _ _ _)
      | (with_reducible exact impl_SeqOk.mono _ _ _ _ _)
      | (with_reducible exact impl_TilesOf.mono _ _ _ _ _)
      | (with_reducible exact impl_fits.mono _ _ _ _ _ _ _ _)
      | (with_reducible exact LeO.refl _)
      | (with_reducible exact LeO.none _)
      | (with_reducible refine LeO.ite ?_ ?_)
      | (with_reducible refine LeO.bind ?_ (fun _ => ?_))
      | exact ih0 _ _ _ _ _ _ _ _ _ _ _ _ _ _ _ _ _ _ _ _
      | exact ih1 _ _ _ _ _ _ _ _ _ _ _ _ _ _ _ _ _ _ _ _
      | exact ih2 _ _ _ _ _ _ _ _ _ _ _ _ _ _ _ _ _ _ _ _
      | exact impl_SeqOk.mono _ _ _ _ _
      | exact impl_TilesOf.mono _ _ _ _ _
      | exact impl_fits.mono _ _ _ _ _ _ _ _
      | exact LeO.none _
      | refine LeO.ite ?_ ?_
      | refine LeO.bind ?_ (fun _ => ?_)
    · intro y0 y1 y2 y3 y4 y5 y6 y7 y8 y9 y10 y11 y12 y13 y14 y15 y16 y17 y18 y19
      unfold impl_DecOk.j2
      repeat' first
      | (with_reducible exact ih0 _ _ _ _ _ _ _ _ _ _ _ _ _ _ _ _ _ _ _ _)
      | (with_reducible exact ih1 _ _ _ _ _ _ _ _ _ _ _ _ _ _ _ _ _ _ _ _)
      | (with_reducible exact ih2 _ _ _ _ _ _ _ _ _ _ _ _ _ _ _ _ _ _ _ _)
      | (with_reducible exact impl_SeqOk.mono _ _ _ _ _)
      | (with_reducible exact impl_TilesOf.mono _ _ _ _ _)
      | (with_reducible exact impl_fits.mono _ _ _ _ _ _ _ _)
      | (with_reducible exact LeO.refl _)
      | (with_reducible exact LeO.none _)
      | (with_reducible refine LeO.ite ?_ ?_)
      | (with_reducible refine LeO.bind ?_ (fun _ => ?_))
      | exact ih0 _ _ _ _ _ _ _ _ _ _ _ _ _ _ _ _ _ _ _ _
      | exact ih1 _ _ _ _ _ _ _ _ _ _ _ _ _ _ _ _ _ _ _ _
      | exact ih2 _ _ _ _ _ _ _ _ _ _ _ _ _ _ _ _ _ _ _ _
      | exact impl_SeqOk.mono _ _ _ _ _
      | exact impl_TilesOf.mono _ _ _ _ _
      | exact impl_fits.mono _ _ _ _ _ _ _ _
      | exact LeO.none _
      | refine LeO.ite ?_ ?_
      | refine LeO.bind ?_ (fun _ => ?_)
theorem impl_DecOk.mono : ∀ a0 a1 a2 a3 a4 a5 a6 a7 a8 a9 a10 a11 a12 a13 a14 a15 a16 a17 a18 k, LeO (impl_DecOk.f k a0 a1 a2 a3 a4 a5 a6 a7 a8 a9 a10 a11 a12 a13 a14 a15 a16 a17 a18) (impl_DecOk.f (k + 1) a0 a1 a2 a3 a4 a5 a6 a7 a8 a9 a10 a11 a12 a13 a14 a15 a16 a17 a18) := by
  intro a0 a1 a2 a3 a4 a5 a6 a7 a8 a9 a10 a11 a12 a13 a14 a15 a16 a17 a18 k
  obtain ⟨ih0, ih1, ih2⟩ := impl_DecOk.mono_l k
  unfold impl_DecOk.f
  repeat' first
      | (with_reducible exact ih0 _ _ _ _ _ _ _ _ _ _ _ _ _ _ _ _ _ _ _ _)
      | (with_reducible exact ih1 _ _ _ _ _ _ _ _ _ _ _ _ _ _ _ _ _ _ _ _)
      | (with_reducible exact ih2 _ _ _ _ _ _ _ _ _ _ _ _ _ _ _ _ _ _ _ _)
      | (with_reducible exact impl_SeqOk.mono _ _ _ _ _)
      | (with_reducible exact impl_TilesOf.mono _ _ _ _ _)
      | (with_reducible exact impl_fits.mono _ _ _ _ _ _ _ _)
      | (with_reducible exact LeO.refl _)
      | (with_reducible exact LeO.none _)
      | (with_reducible refine LeO.ite ?_ ?_)
      | (with_reducible refine LeO.bind ?_ (fun _ => ?_))
      | exact ih0 _ _ _ _ _ _ _ _ _ _ _ _ _ _ _ _ _ _ _ _
      | exact ih1 _ _ _ _ _ _ _ _ _ _ _ _ _ _ _ _ _ _ _ _
      | exact ih2 _ _ _ _ _ _ _ _ _ _ _ _ _ _ _ _ _ _ _ _
      | exact impl_SeqOk.mono _ _ _ _ _
      | exact impl_TilesOf.mono _ _ _ _ _
      | exact impl_fits.mono _ _ _ _ _ _ _ _
      | exact LeO.none _
      | refine LeO.ite ?_ ?_
      | refine LeO.bind ?_ (fun _ => ?_)
def impl_DecOk.T5 : Bool × List (List Nat × List Nat) := (true, [([], []), ([0], [0]), ([], []), ([2], [2]), ([3], [3]), ([4], [4]), ([5], [5]), ([1, 6], [1, 6]), ([7], [7]), ([8, 7], [8]), ([9], [9]), ([10, 9], [9, 10]), ([9], [9]), ([12, 9], [9, 12]), ([13, 9, 9], [9, 13]), ([14, 9], [9, 14]), ([11, 15, 14, 9], [9, 11, 15]), ([16, 9], [9, 16]), ([9, 17], [9, 17])])
def impl_DecOk.B5 : List Nat := [0, 1, 0, 4, 12, 28, 60, 127, 255, 511, 1023, 2047, 1023, 5119, 13311, 29695, 65535, 131071, 262143]
theorem impl_DecOk.tab5 : rtab .any (opsOf Try.f51 5) = impl_DecOk.T5 := by kernel_rfl
theorem impl_DecOk.bits5 : waitsOk impl_DecOk.T5.2 impl_DecOk.B5 = true := by kernel_rfl
set_option maxHeartbeats 8000000 in
set_option maxRecDepth 100000 in
theorem impl_DecOk.calls (k : Nat) (a0_0 : Bool) (a0_1 : Bool) (a0_2 : Bool) (a0_3 : Int) (a0_4 : Int) (A0_5 : Option Addr) (c0_5 : Nat) (l0_5 : List Int) (A0_6 : Option Addr) (c0_6 : Nat) (l0_6 : List Int) (a0_7 : Int) (a0_8 : Bool) (a0_9 : Bool) (a0_10 : Bool) (a0_11 : Int) (a0_12 : Int) (a0_13 : Int) (a0_14 : Int) (a0_15 : ByteArray) (a0_16 : Int) (a0_17 : Int) (a0_18 : ByteArray) (r : Bool) (w : World) (hr0_5 : Kd.C (Kd.int .i64) w A0_5 l0_5.length l0_5) (hc0_5 : l0_5.length ≤ c0_5) (hr0_6 : Kd.C (Kd.int .i64) w A0_6 l0_6.length l0_6) (hc0_6 : l0_6.length ≤ c0_6) (h : impl_DecOk.f k a0_0 a0_1 a0_2 a0_3 a0_4 l0_5 l0_6 a0_7 a0_8 a0_9 a0_10 a0_11 a0_12 a0_13 a0_14 a0_15 a0_16 a0_17 a0_18 = some r) :
    Calls Try.prog 51 #[.agg #[.bool a0_0, .bool a0_1, .bool a0_2, .int .i64 a0_3, .int .i64 a0_4, .slice A0_5 l0_5.length c0_5, .slice A0_6 l0_6.length c0_6, .int .i64 a0_7, .bool a0_8, .bool a0_9, .bool a0_10, .int .i64 a0_11, .int .i64 a0_12, .int .i64 a0_13, .int .i64 a0_14, .string a0_15, .int .i64 a0_16, .int .i64 a0_17, .string a0_18]] w fun e w' => e = .returned (.bool r) ∧ Below w.heap.size w w' := by
  have hu41 := Try.underlying41
  have hu35 := Try.underlying35
  have hu37 := Try.underlying37
  have hu39 := Try.underlying39
  have HR0_5 := Aside0.mk hr0_5
  have HC0_5 := Aside0.mk hc0_5
  clear hr0_5 hc0_5
  have HR0_6 := Aside0.mk hr0_6
  have HC0_6 := Aside0.mk hc0_6
  clear hr0_6 hc0_6
  have HB := Aside0.mk (Below.refl w.heap.size w)
  have H : (if a0_0 = true then ((impl_SeqOk.f k a0_3 a0_4 l0_5 l0_6).bind fun t245 => (if t245 = true then (if a0_1 = true then ((impl_ParOk.f a0_7 a0_8 a0_9 a0_10).bind fun t246 => (if t246 = true then (impl_DecOk.j0 k false a0_0 a0_1 a0_2 a0_3 a0_4 l0_5 l0_6 a0_7 a0_8 a0_9 a0_10 a0_11 a0_12 a0_13 a0_14 a0_15 a0_16 a0_17 a0_18) else (impl_DecOk.j0 k true a0_0 a0_1 a0_2 a0_3 a0_4 l0_5 l0_6 a0_7 a0_8 a0_9 a0_10 a0_11 a0_12 a0_13 a0_14 a0_15 a0_16 a0_17 a0_18))) else (if (!(a0_7 == 0) || (a0_8 || (a0_9 || (a0_10)))) = true then (impl_DecOk.j0 k true a0_0 a0_1 a0_2 a0_3 a0_4 l0_5 l0_6 a0_7 a0_8 a0_9 a0_10 a0_11 a0_12 a0_13 a0_14 a0_15 a0_16 a0_17 a0_18) else (if a0_12 = 0 then (impl_DecOk.j0 k a0_2 a0_0 a0_1 a0_2 a0_3 a0_4 l0_5 l0_6 a0_7 a0_8 a0_9 a0_10 a0_11 a0_12 a0_13 a0_14 a0_15 a0_16 a0_17 a0_18) else (impl_DecOk.j0 k true a0_0 a0_1 a0_2 a0_3 a0_4 l0_5 l0_6 a0_7 a0_8 a0_9 a0_10 a0_11 a0_12 a0_13 a0_14 a0_15 a0_16 a0_17 a0_18)))) else (impl_DecOk.j0 k true a0_0 a0_1 a0_2 a0_3 a0_4 l0_5 l0_6 a0_7 a0_8 a0_9 a0_10 a0_11 a0_12 a0_13 a0_14 a0_15 a0_16 a0_17 a0_18))) else (if a0_1 = true then (some false) else (if a0_2 = true then (some false) else ((impl_isNoSeq.f a0_3 a0_4 l0_5 l0_6).bind fun t244 => (if t244 = true then (if (a0_7 == 0 && (!a0_8 && (!a0_9 && (!a0_10)))) = true then (if a0_11 = (-1) then (if a0_12 = 0 then (if (a0_13 == 0 && (a0_14 == 0 && (a0_15.toList == ([] : List UInt8)))) = true then (some (a0_16 == 0 && (a0_17 == 0 && (a0_18.toList == ([] : List UInt8))))) else (some false)) else (some false)) else (some false)) else (some false)) else (some false)))))) = some r := h
  clear h
  by_cases c2 : a0_0 = true
  · subst c2
    rw [if_pos rfl] at H
    have HC3 := Aside0.mk H
    clear H
    go_enter Try.func51, Try.ntmps51
    go_upto_region 3 with (first | ((with_reducible refine gate_dst (N := 1) rfl ?_); refine box_event ?hg (N := 1) ?hd (cs := #[.bool true, .bool a0_1, .bool a0_2, .int .i64 a0_3, .int .i64 a0_4, .slice A0_5 l0_5.length c0_5, .slice A0_6 l0_6.length c0_6, .int .i64 a0_7, .bool a0_8, .bool a0_9, .bool a0_10, .int .i64 a0_11, .int .i64 a0_12, .int .i64 a0_13, .int .i64 a0_14, .string a0_15, .int .i64 a0_16, .int .i64 a0_17, .string a0_18]) (t := 41) ?hr ?_; (case hd => rfl); (case hg => rfl); (case hr => first | (go_simp; done) | (go_simp; rfl)); intro gb243 hg w4 hbox hb; have n0_ := bs HB hb; have n1_ := Aside0.mk (hbox); have n2_ := bz hg; have n3_ := bz hg; clear HB; have HB := n0_; have BK243 := n1_; have GW243 := n2_; have GE243 := n3_; clear n0_ n1_ n2_ n3_; clear hb hbox hg; have hcz5_0 : ∀ i, w4.cell? ⟨gb243, i, none⟩ = _ := blk_cell BK243.out; have hfz5_0 := blk_frozen BK243.out))
    (try simp only [Act.put, List.setIfInBounds_toArray, List.set_cons_zero, List.set_cons_succ])
    go_cut [80] (fun v80 wc => ∃ (kq : Nat) (x80_2 : Bool), v80 = .bool x80_2 ∧ Aside0 (impl_DecOk.j0 kq x80_2 true a0_1 a0_2 a0_3 a0_4 l0_5 l0_6 a0_7 a0_8 a0_9 a0_10 a0_11 a0_12 a0_13 a0_14 a0_15 a0_16 a0_17 a0_18 = some r) ∧ Aside0 (kq ≤ k) ∧ Aside0 (wc.heap[gb243]? = some (.cells #[.bool true, .bool a0_1, .bool a0_2, .int .i64 a0_3, .int .i64 a0_4, (.slice A0_5 l0_5.length c0_5), (.slice A0_6 l0_6.length c0_6), .int .i64 a0_7, .bool a0_8, .bool a0_9, .bool a0_10, .int .i64 a0_11, .int .i64 a0_12, .int .i64 a0_13, .int .i64 a0_14, .string a0_15, .int .i64 a0_16, .int .i64 a0_17, .string a0_18] 41 (0, 0))) ∧ Aside0 (Below w.heap.size w wc))
    case first =>
      have H := HC3.out
      clear HC3
      replace H := Option.bind_eq_some_iff.mp H
      obtain ⟨t245, A60, H⟩ := H
      (try dsimp only at H)
      have A6 := Aside0.mk A60
      clear A60
      by_cases c7 : t245 = true
      · subst c7
        rw [if_pos rfl] at H
        by_cases c8 : a0_1 = true
        · subst c8
          rw [if_pos rfl] at H
          replace H := Option.bind_eq_some_iff.mp H
          obtain ⟨t246, A90, H⟩ := H
          (try dsimp only at H)
          have A9 := Aside0.mk A90
          clear A90
          by_cases c10 : t246 = true
          · subst c10
            rw [if_pos rfl] at H
            have H' := Aside0.mk H
            clear H
            have hcz11_0 : ∀ i, w4.cell? ⟨gb243, i, none⟩ = _ := blk_cell BK243.out
            have hcz11_1 : w4.cell? ⟨gb243, 1, none⟩ = some (.bool true) := (blk_cell BK243.out 1).trans rfl
            have hcz11_2 : w4.cell? ⟨gb243, 2, none⟩ = some (.bool a0_2) := (blk_cell BK243.out 2).trans rfl
            have hcz11_3 : w4.cell? ⟨gb243, 3, none⟩ = some (.int .i64 a0_3) := (blk_cell BK243.out 3).trans rfl
            have hcz11_4 : w4.cell? ⟨gb243, 4, none⟩ = some (.int .i64 a0_4) := (blk_cell BK243.out 4).trans rfl
            have hcz11_5 : w4.cell? ⟨gb243, 5, none⟩ = some (.slice A0_5 l0_5.length c0_5) := (blk_cell BK243.out 5).trans rfl
            have hcz11_6 : w4.cell? ⟨gb243, 6, none⟩ = some (.slice A0_6 l0_6.length c0_6) := (blk_cell BK243.out 6).trans rfl
            have hcz11_7 : w4.cell? ⟨gb243, 7, none⟩ = some (.int .i64 a0_7) := (blk_cell BK243.out 7).trans rfl
            have hcz11_8 : w4.cell? ⟨gb243, 8, none⟩ = some (.bool a0_8) := (blk_cell BK243.out 8).trans rfl
            have hcz11_9 : w4.cell? ⟨gb243, 9, none⟩ = some (.bool a0_9) := (blk_cell BK243.out 9).trans rfl
            have hcz11_10 : w4.cell? ⟨gb243, 10, none⟩ = some (.bool a0_10) := (blk_cell BK243.out 10).trans rfl
            have hcz11_11 : w4.cell? ⟨gb243, 11, none⟩ = some (.int .i64 a0_11) := (blk_cell BK243.out 11).trans rfl
            have hcz11_12 : w4.cell? ⟨gb243, 12, none⟩ = some (.int .i64 a0_12) := (blk_cell BK243.out 12).trans rfl
            have hcz11_13 : w4.cell? ⟨gb243, 13, none⟩ = some (.int .i64 a0_13) := (blk_cell BK243.out 13).trans rfl
            have hcz11_14 : w4.cell? ⟨gb243, 14, none⟩ = some (.int .i64 a0_14) := (blk_cell BK243.out 14).trans rfl
            have hcz11_15 : w4.cell? ⟨gb243, 15, none⟩ = some (.string a0_15) := (blk_cell BK243.out 15).trans rfl
            have hcz11_16 : w4.cell? ⟨gb243, 16, none⟩ = some (.int .i64 a0_16) := (blk_cell BK243.out 16).trans rfl
            have hcz11_17 : w4.cell? ⟨gb243, 17, none⟩ = some (.int .i64 a0_17) := (blk_cell BK243.out 17).trans rfl
            have hcz11_18 : w4.cell? ⟨gb243, 18, none⟩ = some (.string a0_18) := (blk_cell BK243.out 18).trans rfl
            have hfz11_0 := blk_frozen BK243.out
            have hfz11_1 := blk_frozen BK243.out 1
            have hfz11_2 := blk_frozen BK243.out 2
            have hfz11_3 := blk_frozen BK243.out 3
            have hfz11_4 := blk_frozen BK243.out 4
            have hfz11_5 := blk_frozen BK243.out 5
            have hfz11_6 := blk_frozen BK243.out 6
            have hfz11_7 := blk_frozen BK243.out 7
            have hfz11_8 := blk_frozen BK243.out 8
            have hfz11_9 := blk_frozen BK243.out 9
            have hfz11_10 := blk_frozen BK243.out 10
            have hfz11_11 := blk_frozen BK243.out 11
            have hfz11_12 := blk_frozen BK243.out 12
            have hfz11_13 := blk_frozen BK243.out 13
            have hfz11_14 := blk_frozen BK243.out 14
            have hfz11_15 := blk_frozen BK243.out 15
            have hfz11_16 := blk_frozen BK243.out 16
            have hfz11_17 := blk_frozen BK243.out 17
            have hfz11_18 := blk_frozen BK243.out 18
            go_wp2_with (first | ((with_reducible refine gate_load (t := 41) rfl ?_); refine load_all (g := gb243) (ty := 41) rfl rfl rfl (bx BK243.out) (by kernel_rfl) (by kernel_rfl) ?_; simp only [Act.put, List.setIfInBounds_toArray, List.set_cons_zero, List.set_cons_succ]) | ((with_reducible refine gate_callee (f := 118) rfl ?_); refine goesL_ (some 49) rfl rfl Try.func118 (by kernel_rfl) rfl #[.agg #[.int .i64 a0_3, .int .i64 a0_4, .slice A0_5 l0_5.length c0_5, .slice A0_6 l0_6.length c0_6]] rfl (by (try simp only [List.map_toArray, List.map_cons, List.map_nil]); first | done | rfl | (simp only [List.length_drop, List.length_take]; rfl)) ?_; (with_reducible refine (impl_SeqOk.calls k a0_3 a0_4 _ _ l0_5 _ _ l0_6 true _ ?side1 ?side2 ?side3 ?side4 A6.out).mono ?_); (case side1 => repeat (first | exact (Kd.C_below HR0_5.out HB.out) | (with_reducible refine Kd.C_alloc ?_ _) | (with_reducible refine Kd.C_drewN ?_ _) | (with_reducible refine Kd.C_drew ?_))); (case side2 => exact HC0_5.out); (case side3 => repeat (first | exact (Kd.C_below HR0_6.out HB.out) | (with_reducible refine Kd.C_alloc ?_ _) | (with_reducible refine Kd.C_drewN ?_ _) | (with_reducible refine Kd.C_drew ?_))); (case side4 => exact HC0_6.out); rintro e w12 ⟨rfl, hb⟩; refine ⟨_, rfl, ?_⟩; have n0_ := Aside0.mk (blk_below (bx BK243.out) hb); have n1_ := bs HB hb; clear BK243; clear HB; have BK243 := n0_; have HB := n1_; clear n0_ n1_; (try clear hb); (try clear hb2); (try clear hk); (try clear hi); have hcz13_0 : ∀ i, w12.cell? ⟨gb243, i, none⟩ = _ := blk_cell BK243.out; have hfz13_0 := blk_frozen BK243.out) | (go_at_call 119; (with_reducible refine (impl_ParOk.calls a0_7 a0_8 a0_9 a0_10 true _ A9.out).mono ?_); rintro e w14 ⟨rfl, hb⟩; have n0_ := Aside0.mk (blk_below (bx BK243.out) hb); have n1_ := bs HB hb; clear BK243; clear HB; have BK243 := n0_; have HB := n1_; clear n0_ n1_; (try clear hb); (try clear hb2); (try clear hk); (try clear hi); have hcz15_0 : ∀ i, w14.cell? ⟨gb243, i, none⟩ = _ := blk_cell BK243.out; have hfz15_0 := blk_frozen BK243.out))
            go_meet
            case rel => exact ⟨_, (false), (by first | rfl | (simp; done) | (simp [*]; done)), H', ⟨by first | omega | exact Nat.le_refl _⟩, ⟨by (with_reducible repeat (first | refine blk_drewN ?_ _ | refine blk_drew ?_ | refine blk_alloc ?_ _)); exact BK243.out⟩, ⟨bl⟩⟩
          · replace c10 := Bool.eq_false_iff.mpr c10
            subst c10
            have H1 : (impl_DecOk.j0 k true true true a0_2 a0_3 a0_4 l0_5 l0_6 a0_7 a0_8 a0_9 a0_10 a0_11 a0_12 a0_13 a0_14 a0_15 a0_16 a0_17 a0_18) = some r := by rw [if_neg (show ¬ (false = true) by decide)] at H; exact H
            clear H
            have H := H1
            clear H1
            have H' := Aside0.mk H
            clear H
            have hcz16_0 : ∀ i, w4.cell? ⟨gb243, i, none⟩ = _ := blk_cell BK243.out
            have hcz16_1 : w4.cell? ⟨gb243, 1, none⟩ = some (.bool true) := (blk_cell BK243.out 1).trans rfl
            have hcz16_2 : w4.cell? ⟨gb243, 2, none⟩ = some (.bool a0_2) := (blk_cell BK243.out 2).trans rfl
            have hcz16_3 : w4.cell? ⟨gb243, 3, none⟩ = some (.int .i64 a0_3) := (blk_cell BK243.out 3).trans rfl
            have hcz16_4 : w4.cell? ⟨gb243, 4, none⟩ = some (.int .i64 a0_4) := (blk_cell BK243.out 4).trans rfl
            have hcz16_5 : w4.cell? ⟨gb243, 5, none⟩ = some (.slice A0_5 l0_5.length c0_5) := (blk_cell BK243.out 5).trans rfl
            have hcz16_6 : w4.cell? ⟨gb243, 6, none⟩ = some (.slice A0_6 l0_6.length c0_6) := (blk_cell BK243.out 6).trans rfl
            have hcz16_7 : w4.cell? ⟨gb243, 7, none⟩ = some (.int .i64 a0_7) := (blk_cell BK243.out 7).trans rfl
            have hcz16_8 : w4.cell? ⟨gb243, 8, none⟩ = some (.bool a0_8) := (blk_cell BK243.out 8).trans rfl
            have hcz16_9 : w4.cell? ⟨gb243, 9, none⟩ = some (.bool a0_9) := (blk_cell BK243.out 9).trans rfl
            have hcz16_10 : w4.cell? ⟨gb243, 10, none⟩ = some (.bool a0_10) := (blk_cell BK243.out 10).trans rfl
            have hcz16_11 : w4.cell? ⟨gb243, 11, none⟩ = some (.int .i64 a0_11) := (blk_cell BK243.out 11).trans rfl
            have hcz16_12 : w4.cell? ⟨gb243, 12, none⟩ = some (.int .i64 a0_12) := (blk_cell BK243.out 12).trans rfl
            have hcz16_13 : w4.cell? ⟨gb243, 13, none⟩ = some (.int .i64 a0_13) := (blk_cell BK243.out 13).trans rfl
            have hcz16_14 : w4.cell? ⟨gb243, 14, none⟩ = some (.int .i64 a0_14) := (blk_cell BK243.out 14).trans rfl
            have hcz16_15 : w4.cell? ⟨gb243, 15, none⟩ = some (.string a0_15) := (blk_cell BK243.out 15).trans rfl
            have hcz16_16 : w4.cell? ⟨gb243, 16, none⟩ = some (.int .i64 a0_16) := (blk_cell BK243.out 16).trans rfl
            have hcz16_17 : w4.cell? ⟨gb243, 17, none⟩ = some (.int .i64 a0_17) := (blk_cell BK243.out 17).trans rfl
            have hcz16_18 : w4.cell? ⟨gb243, 18, none⟩ = some (.string a0_18) := (blk_cell BK243.out 18).trans rfl
            have hfz16_0 := blk_frozen BK243.out
            have hfz16_1 := blk_frozen BK243.out 1
            have hfz16_2 := blk_frozen BK243.out 2
            have hfz16_3 := blk_frozen BK243.out 3
            have hfz16_4 := blk_frozen BK243.out 4
            have hfz16_5 := blk_frozen BK243.out 5
            have hfz16_6 := blk_frozen BK243.out 6
            have hfz16_7 := blk_frozen BK243.out 7
            have hfz16_8 := blk_frozen BK243.out 8
            have hfz16_9 := blk_frozen BK243.out 9
            have hfz16_10 := blk_frozen BK243.out 10
            have hfz16_11 := blk_frozen BK243.out 11
            have hfz16_12 := blk_frozen BK243.out 12
            have hfz16_13 := blk_frozen BK243.out 13
            have hfz16_14 := blk_frozen BK243.out 14
            have hfz16_15 := blk_frozen BK243.out 15
            have hfz16_16 := blk_frozen BK243.out 16
            have hfz16_17 := blk_frozen BK243.out 17
            have hfz16_18 := blk_frozen BK243.out 18
            go_wp2_with (first | ((with_reducible refine gate_load (t := 41) rfl ?_); refine load_all (g := gb243) (ty := 41) rfl rfl rfl (bx BK243.out) (by kernel_rfl) (by kernel_rfl) ?_; simp only [Act.put, List.setIfInBounds_toArray, List.set_cons_zero, List.set_cons_succ]) | ((with_reducible refine gate_callee (f := 118) rfl ?_); refine goesL_ (some 49) rfl rfl Try.func118 (by kernel_rfl) rfl #[.agg #[.int .i64 a0_3, .int .i64 a0_4, .slice A0_5 l0_5.length c0_5, .slice A0_6 l0_6.length c0_6]] rfl (by (try simp only [List.map_toArray, List.map_cons, List.map_nil]); first | done | rfl | (simp only [List.length_drop, List.length_take]; rfl)) ?_; (with_reducible refine (impl_SeqOk.calls k a0_3 a0_4 _ _ l0_5 _ _ l0_6 true _ ?side1 ?side2 ?side3 ?side4 A6.out).mono ?_); (case side1 => repeat (first | exact (Kd.C_below HR0_5.out HB.out) | (with_reducible refine Kd.C_alloc ?_ _) | (with_reducible refine Kd.C_drewN ?_ _) | (with_reducible refine Kd.C_drew ?_))); (case side2 => exact HC0_5.out); (case side3 => repeat (first | exact (Kd.C_below HR0_6.out HB.out) | (with_reducible refine Kd.C_alloc ?_ _) | (with_reducible refine Kd.C_drewN ?_ _) | (with_reducible refine Kd.C_drew ?_))); (case side4 => exact HC0_6.out); rintro e w17 ⟨rfl, hb⟩; refine ⟨_, rfl, ?_⟩; have n0_ := Aside0.mk (blk_below (bx BK243.out) hb); have n1_ := bs HB hb; clear BK243; clear HB; have BK243 := n0_; have HB := n1_; clear n0_ n1_; (try clear hb); (try clear hb2); (try clear hk); (try clear hi); have hcz18_0 : ∀ i, w17.cell? ⟨gb243, i, none⟩ = _ := blk_cell BK243.out; have hfz18_0 := blk_frozen BK243.out) | (go_at_call 119; (with_reducible refine (impl_ParOk.calls a0_7 a0_8 a0_9 a0_10 false _ A9.out).mono ?_); rintro e w19 ⟨rfl, hb⟩; have n0_ := Aside0.mk (blk_below (bx BK243.out) hb); have n1_ := bs HB hb; clear BK243; clear HB; have BK243 := n0_; have HB := n1_; clear n0_ n1_; (try clear hb); (try clear hb2); (try clear hk); (try clear hi)))
            go_meet
            case rel => exact ⟨_, (true), (by first | rfl | (simp; done) | (simp [*]; done)), H', ⟨by first | omega | exact Nat.le_refl _⟩, ⟨by (with_reducible repeat (first | refine blk_drewN ?_ _ | refine blk_drew ?_ | refine blk_alloc ?_ _)); exact BK243.out⟩, ⟨bl⟩⟩
        · replace c8 := Bool.eq_false_iff.mpr c8
          subst c8
          have H1 : (if (!(a0_7 == 0) || (a0_8 || (a0_9 || (a0_10)))) = true then (impl_DecOk.j0 k true true false a0_2 a0_3 a0_4 l0_5 l0_6 a0_7 a0_8 a0_9 a0_10 a0_11 a0_12 a0_13 a0_14 a0_15 a0_16 a0_17 a0_18) else (if a0_12 = 0 then (impl_DecOk.j0 k a0_2 true false a0_2 a0_3 a0_4 l0_5 l0_6 a0_7 a0_8 a0_9 a0_10 a0_11 a0_12 a0_13 a0_14 a0_15 a0_16 a0_17 a0_18) else (impl_DecOk.j0 k true true false a0_2 a0_3 a0_4 l0_5 l0_6 a0_7 a0_8 a0_9 a0_10 a0_11 a0_12 a0_13 a0_14 a0_15 a0_16 a0_17 a0_18))) = some r := by rw [if_neg (show ¬ (false = true) by decide)] at H; exact H
          clear H
          have H := H1
          clear H1
          by_cases c20 : (!(a0_7 == 0) || (a0_8 || (a0_9 || (a0_10)))) = true
          · rw [if_pos c20] at H
            have c20b0 : (!(a0_7 == 0) || (a0_8 || (a0_9 || (a0_10)))) = true := c20
            clear c20
            (first | rw [c20b0] | (simp only [i64_w, i32_w]; rw [c20b0]) | skip)
            have H' := Aside0.mk H
            clear H
            have hcz21_0 : ∀ i, w4.cell? ⟨gb243, i, none⟩ = _ := blk_cell BK243.out
            have hcz21_1 : w4.cell? ⟨gb243, 1, none⟩ = some (.bool false) := (blk_cell BK243.out 1).trans rfl
            have hcz21_2 : w4.cell? ⟨gb243, 2, none⟩ = some (.bool a0_2) := (blk_cell BK243.out 2).trans rfl
            have hcz21_3 : w4.cell? ⟨gb243, 3, none⟩ = some (.int .i64 a0_3) := (blk_cell BK243.out 3).trans rfl
            have hcz21_4 : w4.cell? ⟨gb243, 4, none⟩ = some (.int .i64 a0_4) := (blk_cell BK243.out 4).trans rfl
            have hcz21_5 : w4.cell? ⟨gb243, 5, none⟩ = some (.slice A0_5 l0_5.length c0_5) := (blk_cell BK243.out 5).trans rfl
            have hcz21_6 : w4.cell? ⟨gb243, 6, none⟩ = some (.slice A0_6 l0_6.length c0_6) := (blk_cell BK243.out 6).trans rfl
            have hcz21_7 : w4.cell? ⟨gb243, 7, none⟩ = some (.int .i64 a0_7) := (blk_cell BK243.out 7).trans rfl
            have hcz21_8 : w4.cell? ⟨gb243, 8, none⟩ = some (.bool a0_8) := (blk_cell BK243.out 8).trans rfl
            have hcz21_9 : w4.cell? ⟨gb243, 9, none⟩ = some (.bool a0_9) := (blk_cell BK243.out 9).trans rfl
            have hcz21_10 : w4.cell? ⟨gb243, 10, none⟩ = some (.bool a0_10) := (blk_cell BK243.out 10).trans rfl
            have hcz21_11 : w4.cell? ⟨gb243, 11, none⟩ = some (.int .i64 a0_11) := (blk_cell BK243.out 11).trans rfl
            have hcz21_12 : w4.cell? ⟨gb243, 12, none⟩ = some (.int .i64 a0_12) := (blk_cell BK243.out 12).trans rfl
            have hcz21_13 : w4.cell? ⟨gb243, 13, none⟩ = some (.int .i64 a0_13) := (blk_cell BK243.out 13).trans rfl
            have hcz21_14 : w4.cell? ⟨gb243, 14, none⟩ = some (.int .i64 a0_14) := (blk_cell BK243.out 14).trans rfl
            have hcz21_15 : w4.cell? ⟨gb243, 15, none⟩ = some (.string a0_15) := (blk_cell BK243.out 15).trans rfl
            have hcz21_16 : w4.cell? ⟨gb243, 16, none⟩ = some (.int .i64 a0_16) := (blk_cell BK243.out 16).trans rfl
            have hcz21_17 : w4.cell? ⟨gb243, 17, none⟩ = some (.int .i64 a0_17) := (blk_cell BK243.out 17).trans rfl
            have hcz21_18 : w4.cell? ⟨gb243, 18, none⟩ = some (.string a0_18) := (blk_cell BK243.out 18).trans rfl
            have hfz21_0 := blk_frozen BK243.out
            have hfz21_1 := blk_frozen BK243.out 1
            have hfz21_2 := blk_frozen BK243.out 2
            have hfz21_3 := blk_frozen BK243.out 3
            have hfz21_4 := blk_frozen BK243.out 4
            have hfz21_5 := blk_frozen BK243.out 5
            have hfz21_6 := blk_frozen BK243.out 6
            have hfz21_7 := blk_frozen BK243.out 7
            have hfz21_8 := blk_frozen BK243.out 8
            have hfz21_9 := blk_frozen BK243.out 9
            have hfz21_10 := blk_frozen BK243.out 10
            have hfz21_11 := blk_frozen BK243.out 11
            have hfz21_12 := blk_frozen BK243.out 12
            have hfz21_13 := blk_frozen BK243.out 13
            have hfz21_14 := blk_frozen BK243.out 14
            have hfz21_15 := blk_frozen BK243.out 15
            have hfz21_16 := blk_frozen BK243.out 16
            have hfz21_17 := blk_frozen BK243.out 17
            have hfz21_18 := blk_frozen BK243.out 18
            go_wp2_with (first | ((with_reducible refine gate_load (t := 41) rfl ?_); refine load_all (g := gb243) (ty := 41) rfl rfl rfl (bx BK243.out) (by kernel_rfl) (by kernel_rfl) ?_; simp only [Act.put, List.setIfInBounds_toArray, List.set_cons_zero, List.set_cons_succ]) | ((with_reducible refine gate_callee (f := 118) rfl ?_); refine goesL_ (some 49) rfl rfl Try.func118 (by kernel_rfl) rfl #[.agg #[.int .i64 a0_3, .int .i64 a0_4, .slice A0_5 l0_5.length c0_5, .slice A0_6 l0_6.length c0_6]] rfl (by (try simp only [List.map_toArray, List.map_cons, List.map_nil]); first | done | rfl | (simp only [List.length_drop, List.length_take]; rfl)) ?_; (with_reducible refine (impl_SeqOk.calls k a0_3 a0_4 _ _ l0_5 _ _ l0_6 true _ ?side1 ?side2 ?side3 ?side4 A6.out).mono ?_); (case side1 => repeat (first | exact (Kd.C_below HR0_5.out HB.out) | (with_reducible refine Kd.C_alloc ?_ _) | (with_reducible refine Kd.C_drewN ?_ _) | (with_reducible refine Kd.C_drew ?_))); (case side2 => exact HC0_5.out); (case side3 => repeat (first | exact (Kd.C_below HR0_6.out HB.out) | (with_reducible refine Kd.C_alloc ?_ _) | (with_reducible refine Kd.C_drewN ?_ _) | (with_reducible refine Kd.C_drew ?_))); (case side4 => exact HC0_6.out); rintro e w22 ⟨rfl, hb⟩; refine ⟨_, rfl, ?_⟩; have n0_ := Aside0.mk (blk_below (bx BK243.out) hb); have n1_ := bs HB hb; clear BK243; clear HB; have BK243 := n0_; have HB := n1_; clear n0_ n1_; (try clear hb); (try clear hb2); (try clear hk); (try clear hi); have hcz23_0 : ∀ i, w22.cell? ⟨gb243, i, none⟩ = _ := blk_cell BK243.out; have hfz23_0 := blk_frozen BK243.out))
            go_meet
            case rel => exact ⟨_, (true), (by first | rfl | (simp; done) | (simp [*]; done)), H', ⟨by first | omega | exact Nat.le_refl _⟩, ⟨by (with_reducible repeat (first | refine blk_drewN ?_ _ | refine blk_drew ?_ | refine blk_alloc ?_ _)); exact BK243.out⟩, ⟨bl⟩⟩
          · rw [if_neg c20] at H
            have c20b0 : (!(a0_7 == 0) || (a0_8 || (a0_9 || (a0_10)))) = false := by simpa using c20
            clear c20
            (first | rw [c20b0] | (simp only [i64_w, i32_w]; rw [c20b0]) | skip)
            by_cases c24 : a0_12 = 0
            · rw [if_pos c24] at H
              have c24b0 : (a0_12 == 0) = true := beq_iff_eq.mpr c24
              have c24b1 : (a0_12 != 0) = false := bne_eq_false_iff_eq.mpr c24
              clear c24
              have H' := Aside0.mk H
              clear H
              have hcz25_0 : ∀ i, w4.cell? ⟨gb243, i, none⟩ = _ := blk_cell BK243.out
              have hcz25_1 : w4.cell? ⟨gb243, 1, none⟩ = some (.bool false) := (blk_cell BK243.out 1).trans rfl
              have hcz25_2 : w4.cell? ⟨gb243, 2, none⟩ = some (.bool a0_2) := (blk_cell BK243.out 2).trans rfl
              have hcz25_3 : w4.cell? ⟨gb243, 3, none⟩ = some (.int .i64 a0_3) := (blk_cell BK243.out 3).trans rfl
              have hcz25_4 : w4.cell? ⟨gb243, 4, none⟩ = some (.int .i64 a0_4) := (blk_cell BK243.out 4).trans rfl
              have hcz25_5 : w4.cell? ⟨gb243, 5, none⟩ = some (.slice A0_5 l0_5.length c0_5) := (blk_cell BK243.out 5).trans rfl
              have hcz25_6 : w4.cell? ⟨gb243, 6, none⟩ = some (.slice A0_6 l0_6.length c0_6) := (blk_cell BK243.out 6).trans rfl
              have hcz25_7 : w4.cell? ⟨gb243, 7, none⟩ = some (.int .i64 a0_7) := (blk_cell BK243.out 7).trans rfl
              have hcz25_8 : w4.cell? ⟨gb243, 8, none⟩ = some (.bool a0_8) := (blk_cell BK243.out 8).trans rfl
              have hcz25_9 : w4.cell? ⟨gb243, 9, none⟩ = some (.bool a0_9) := (blk_cell BK243.out 9).trans rfl
              have hcz25_10 : w4.cell? ⟨gb243, 10, none⟩ = some (.bool a0_10) := (blk_cell BK243.out 10).trans rfl
              have hcz25_11 : w4.cell? ⟨gb243, 11, none⟩ = some (.int .i64 a0_11) := (blk_cell BK243.out 11).trans rfl
              have hcz25_12 : w4.cell? ⟨gb243, 12, none⟩ = some (.int .i64 a0_12) := (blk_cell BK243.out 12).trans rfl
              have hcz25_13 : w4.cell? ⟨gb243, 13, none⟩ = some (.int .i64 a0_13) := (blk_cell BK243.out 13).trans rfl
              have hcz25_14 : w4.cell? ⟨gb243, 14, none⟩ = some (.int .i64 a0_14) := (blk_cell BK243.out 14).trans rfl
              have hcz25_15 : w4.cell? ⟨gb243, 15, none⟩ = some (.string a0_15) := (blk_cell BK243.out 15).trans rfl
              have hcz25_16 : w4.cell? ⟨gb243, 16, none⟩ = some (.int .i64 a0_16) := (blk_cell BK243.out 16).trans rfl
              have hcz25_17 : w4.cell? ⟨gb243, 17, none⟩ = some (.int .i64 a0_17) := (blk_cell BK243.out 17).trans rfl
              have hcz25_18 : w4.cell? ⟨gb243, 18, none⟩ = some (.string a0_18) := (blk_cell BK243.out 18).trans rfl
              have hfz25_0 := blk_frozen BK243.out
              have hfz25_1 := blk_frozen BK243.out 1
              have hfz25_2 := blk_frozen BK243.out 2
              have hfz25_3 := blk_frozen BK243.out 3
              have hfz25_4 := blk_frozen BK243.out 4
              have hfz25_5 := blk_frozen BK243.out 5
              have hfz25_6 := blk_frozen BK243.out 6
              have hfz25_7 := blk_frozen BK243.out 7
              have hfz25_8 := blk_frozen BK243.out 8
              have hfz25_9 := blk_frozen BK243.out 9
              have hfz25_10 := blk_frozen BK243.out 10
              have hfz25_11 := blk_frozen BK243.out 11
              have hfz25_12 := blk_frozen BK243.out 12
              have hfz25_13 := blk_frozen BK243.out 13
              have hfz25_14 := blk_frozen BK243.out 14
              have hfz25_15 := blk_frozen BK243.out 15
              have hfz25_16 := blk_frozen BK243.out 16
              have hfz25_17 := blk_frozen BK243.out 17
              have hfz25_18 := blk_frozen BK243.out 18
              go_wp2_with (first | ((with_reducible refine gate_load (t := 41) rfl ?_); refine load_all (g := gb243) (ty := 41) rfl rfl rfl (bx BK243.out) (by kernel_rfl) (by kernel_rfl) ?_; simp only [Act.put, List.setIfInBounds_toArray, List.set_cons_zero, List.set_cons_succ]) | ((with_reducible refine gate_callee (f := 118) rfl ?_); refine goesL_ (some 49) rfl rfl Try.func118 (by kernel_rfl) rfl #[.agg #[.int .i64 a0_3, .int .i64 a0_4, .slice A0_5 l0_5.length c0_5, .slice A0_6 l0_6.length c0_6]] rfl (by (try simp only [List.map_toArray, List.map_cons, List.map_nil]); first | done | rfl | (simp only [List.length_drop, List.length_take]; rfl)) ?_; (with_reducible refine (impl_SeqOk.calls k a0_3 a0_4 _ _ l0_5 _ _ l0_6 true _ ?side1 ?side2 ?side3 ?side4 A6.out).mono ?_); (case side1 => repeat (first | exact (Kd.C_below HR0_5.out HB.out) | (with_reducible refine Kd.C_alloc ?_ _) | (with_reducible refine Kd.C_drewN ?_ _) | (with_reducible refine Kd.C_drew ?_))); (case side2 => exact HC0_5.out); (case side3 => repeat (first | exact (Kd.C_below HR0_6.out HB.out) | (with_reducible refine Kd.C_alloc ?_ _) | (with_reducible refine Kd.C_drewN ?_ _) | (with_reducible refine Kd.C_drew ?_))); (case side4 => exact HC0_6.out); rintro e w26 ⟨rfl, hb⟩; refine ⟨_, rfl, ?_⟩; have n0_ := Aside0.mk (blk_below (bx BK243.out) hb); have n1_ := bs HB hb; clear BK243; clear HB; have BK243 := n0_; have HB := n1_; clear n0_ n1_; (try clear hb); (try clear hb2); (try clear hk); (try clear hi); have hcz27_0 : ∀ i, w26.cell? ⟨gb243, i, none⟩ = _ := blk_cell BK243.out; have hfz27_0 := blk_frozen BK243.out))
              go_meet
              case rel => exact ⟨_, (a0_2), (by first | rfl | (simp; done) | (simp [*]; done)), H', ⟨by first | omega | exact Nat.le_refl _⟩, ⟨by (with_reducible repeat (first | refine blk_drewN ?_ _ | refine blk_drew ?_ | refine blk_alloc ?_ _)); exact BK243.out⟩, ⟨bl⟩⟩
            · rw [if_neg c24] at H
              have c24b0 : (a0_12 == 0) = false := beq_eq_false_iff_ne.mpr c24
              have c24b1 : (a0_12 != 0) = true := bne_iff_ne.mpr c24
              have H' := Aside0.mk H
              clear H
              have hcz28_0 : ∀ i, w4.cell? ⟨gb243, i, none⟩ = _ := blk_cell BK243.out
              have hcz28_1 : w4.cell? ⟨gb243, 1, none⟩ = some (.bool false) := (blk_cell BK243.out 1).trans rfl
              have hcz28_2 : w4.cell? ⟨gb243, 2, none⟩ = some (.bool a0_2) := (blk_cell BK243.out 2).trans rfl
              have hcz28_3 : w4.cell? ⟨gb243, 3, none⟩ = some (.int .i64 a0_3) := (blk_cell BK243.out 3).trans rfl
              have hcz28_4 : w4.cell? ⟨gb243, 4, none⟩ = some (.int .i64 a0_4) := (blk_cell BK243.out 4).trans rfl
              have hcz28_5 : w4.cell? ⟨gb243, 5, none⟩ = some (.slice A0_5 l0_5.length c0_5) := (blk_cell BK243.out 5).trans rfl
              have hcz28_6 : w4.cell? ⟨gb243, 6, none⟩ = some (.slice A0_6 l0_6.length c0_6) := (blk_cell BK243.out 6).trans rfl
              have hcz28_7 : w4.cell? ⟨gb243, 7, none⟩ = some (.int .i64 a0_7) := (blk_cell BK243.out 7).trans rfl
              have hcz28_8 : w4.cell? ⟨gb243, 8, none⟩ = some (.bool a0_8) := (blk_cell BK243.out 8).trans rfl
              have hcz28_9 : w4.cell? ⟨gb243, 9, none⟩ = some (.bool a0_9) := (blk_cell BK243.out 9).trans rfl
              have hcz28_10 : w4.cell? ⟨gb243, 10, none⟩ = some (.bool a0_10) := (blk_cell BK243.out 10).trans rfl
              have hcz28_11 : w4.cell? ⟨gb243, 11, none⟩ = some (.int .i64 a0_11) := (blk_cell BK243.out 11).trans rfl
              have hcz28_12 : w4.cell? ⟨gb243, 12, none⟩ = some (.int .i64 a0_12) := (blk_cell BK243.out 12).trans rfl
              have hcz28_13 : w4.cell? ⟨gb243, 13, none⟩ = some (.int .i64 a0_13) := (blk_cell BK243.out 13).trans rfl
              have hcz28_14 : w4.cell? ⟨gb243, 14, none⟩ = some (.int .i64 a0_14) := (blk_cell BK243.out 14).trans rfl
              have hcz28_15 : w4.cell? ⟨gb243, 15, none⟩ = some (.string a0_15) := (blk_cell BK243.out 15).trans rfl
              have hcz28_16 : w4.cell? ⟨gb243, 16, none⟩ = some (.int .i64 a0_16) := (blk_cell BK243.out 16).trans rfl
              have hcz28_17 : w4.cell? ⟨gb243, 17, none⟩ = some (.int .i64 a0_17) := (blk_cell BK243.out 17).trans rfl
              have hcz28_18 : w4.cell? ⟨gb243, 18, none⟩ = some (.string a0_18) := (blk_cell BK243.out 18).trans rfl
              have hfz28_0 := blk_frozen BK243.out
              have hfz28_1 := blk_frozen BK243.out 1
              have hfz28_2 := blk_frozen BK243.out 2
              have hfz28_3 := blk_frozen BK243.out 3
              have hfz28_4 := blk_frozen BK243.out 4
              have hfz28_5 := blk_frozen BK243.out 5
              have hfz28_6 := blk_frozen BK243.out 6
              have hfz28_7 := blk_frozen BK243.out 7
              have hfz28_8 := blk_frozen BK243.out 8
              have hfz28_9 := blk_frozen BK243.out 9
              have hfz28_10 := blk_frozen BK243.out 10
              have hfz28_11 := blk_frozen BK243.out 11
              have hfz28_12 := blk_frozen BK243.out 12
              have hfz28_13 := blk_frozen BK243.out 13
              have hfz28_14 := blk_frozen BK243.out 14
              have hfz28_15 := blk_frozen BK243.out 15
              have hfz28_16 := blk_frozen BK243.out 16
              have hfz28_17 := blk_frozen BK243.out 17
              have hfz28_18 := blk_frozen BK243.out 18
              go_wp2_with (first | ((with_reducible refine gate_load (t := 41) rfl ?_); refine load_all (g := gb243) (ty := 41) rfl rfl rfl (bx BK243.out) (by kernel_rfl) (by kernel_rfl) ?_; simp only [Act.put, List.setIfInBounds_toArray, List.set_cons_zero, List.set_cons_succ]) | ((with_reducible refine gate_callee (f := 118) rfl ?_); refine goesL_ (some 49) rfl rfl Try.func118 (by kernel_rfl) rfl #[.agg #[.int .i64 a0_3, .int .i64 a0_4, .slice A0_5 l0_5.length c0_5, .slice A0_6 l0_6.length c0_6]] rfl (by (try simp only [List.map_toArray, List.map_cons, List.map_nil]); first | done | rfl | (simp only [List.length_drop, List.length_take]; rfl)) ?_; (with_reducible refine (impl_SeqOk.calls k a0_3 a0_4 _ _ l0_5 _ _ l0_6 true _ ?side1 ?side2 ?side3 ?side4 A6.out).mono ?_); (case side1 => repeat (first | exact (Kd.C_below HR0_5.out HB.out) | (with_reducible refine Kd.C_alloc ?_ _) | (with_reducible refine Kd.C_drewN ?_ _) | (with_reducible refine Kd.C_drew ?_))); (case side2 => exact HC0_5.out); (case side3 => repeat (first | exact (Kd.C_below HR0_6.out HB.out) | (with_reducible refine Kd.C_alloc ?_ _) | (with_reducible refine Kd.C_drewN ?_ _) | (with_reducible refine Kd.C_drew ?_))); (case side4 => exact HC0_6.out); rintro e w29 ⟨rfl, hb⟩; refine ⟨_, rfl, ?_⟩; have n0_ := Aside0.mk (blk_below (bx BK243.out) hb); have n1_ := bs HB hb; clear BK243; clear HB; have BK243 := n0_; have HB := n1_; clear n0_ n1_; (try clear hb); (try clear hb2); (try clear hk); (try clear hi); have hcz30_0 : ∀ i, w29.cell? ⟨gb243, i, none⟩ = _ := blk_cell BK243.out; have hfz30_0 := blk_frozen BK243.out))
              go_meet
              case rel => exact ⟨_, (true), (by first | rfl | (simp; done) | (simp [*]; done)), H', ⟨by first | omega | exact Nat.le_refl _⟩, ⟨by (with_reducible repeat (first | refine blk_drewN ?_ _ | refine blk_drew ?_ | refine blk_alloc ?_ _)); exact BK243.out⟩, ⟨bl⟩⟩
      · replace c7 := Bool.eq_false_iff.mpr c7
        subst c7
        have H1 : (impl_DecOk.j0 k true true a0_1 a0_2 a0_3 a0_4 l0_5 l0_6 a0_7 a0_8 a0_9 a0_10 a0_11 a0_12 a0_13 a0_14 a0_15 a0_16 a0_17 a0_18) = some r := by rw [if_neg (show ¬ (false = true) by decide)] at H; exact H
        clear H
        have H := H1
        clear H1
        have H' := Aside0.mk H
        clear H
        have hcz31_0 : ∀ i, w4.cell? ⟨gb243, i, none⟩ = _ := blk_cell BK243.out
        have hcz31_1 : w4.cell? ⟨gb243, 1, none⟩ = some (.bool a0_1) := (blk_cell BK243.out 1).trans rfl
        have hcz31_2 : w4.cell? ⟨gb243, 2, none⟩ = some (.bool a0_2) := (blk_cell BK243.out 2).trans rfl
        have hcz31_3 : w4.cell? ⟨gb243, 3, none⟩ = some (.int .i64 a0_3) := (blk_cell BK243.out 3).trans rfl
        have hcz31_4 : w4.cell? ⟨gb243, 4, none⟩ = some (.int .i64 a0_4) := (blk_cell BK243.out 4).trans rfl
        have hcz31_5 : w4.cell? ⟨gb243, 5, none⟩ = some (.slice A0_5 l0_5.length c0_5) := (blk_cell BK243.out 5).trans rfl
        have hcz31_6 : w4.cell? ⟨gb243, 6, none⟩ = some (.slice A0_6 l0_6.length c0_6) := (blk_cell BK243.out 6).trans rfl
        have hcz31_7 : w4.cell? ⟨gb243, 7, none⟩ = some (.int .i64 a0_7) := (blk_cell BK243.out 7).trans rfl
        have hcz31_8 : w4.cell? ⟨gb243, 8, none⟩ = some (.bool a0_8) := (blk_cell BK243.out 8).trans rfl
        have hcz31_9 : w4.cell? ⟨gb243, 9, none⟩ = some (.bool a0_9) := (blk_cell BK243.out 9).trans rfl
        have hcz31_10 : w4.cell? ⟨gb243, 10, none⟩ = some (.bool a0_10) := (blk_cell BK243.out 10).trans rfl
        have hcz31_11 : w4.cell? ⟨gb243, 11, none⟩ = some (.int .i64 a0_11) := (blk_cell BK243.out 11).trans rfl
        have hcz31_12 : w4.cell? ⟨gb243, 12, none⟩ = some (.int .i64 a0_12) := (blk_cell BK243.out 12).trans rfl
        have hcz31_13 : w4.cell? ⟨gb243, 13, none⟩ = some (.int .i64 a0_13) := (blk_cell BK243.out 13).trans rfl
        have hcz31_14 : w4.cell? ⟨gb243, 14, none⟩ = some (.int .i64 a0_14) := (blk_cell BK243.out 14).trans rfl
        have hcz31_15 : w4.cell? ⟨gb243, 15, none⟩ = some (.string a0_15) := (blk_cell BK243.out 15).trans rfl
        have hcz31_16 : w4.cell? ⟨gb243, 16, none⟩ = some (.int .i64 a0_16) := (blk_cell BK243.out 16).trans rfl
        have hcz31_17 : w4.cell? ⟨gb243, 17, none⟩ = some (.int .i64 a0_17) := (blk_cell BK243.out 17).trans rfl
        have hcz31_18 : w4.cell? ⟨gb243, 18, none⟩ = some (.string a0_18) := (blk_cell BK243.out 18).trans rfl
        have hfz31_0 := blk_frozen BK243.out
        have hfz31_1 := blk_frozen BK243.out 1
        have hfz31_2 := blk_frozen BK243.out 2
        have hfz31_3 := blk_frozen BK243.out 3
        have hfz31_4 := blk_frozen BK243.out 4
        have hfz31_5 := blk_frozen BK243.out 5
        have hfz31_6 := blk_frozen BK243.out 6
        have hfz31_7 := blk_frozen BK243.out 7
        have hfz31_8 := blk_frozen BK243.out 8
        have hfz31_9 := blk_frozen BK243.out 9
        have hfz31_10 := blk_frozen BK243.out 10
        have hfz31_11 := blk_frozen BK243.out 11
        have hfz31_12 := blk_frozen BK243.out 12
        have hfz31_13 := blk_frozen BK243.out 13
        have hfz31_14 := blk_frozen BK243.out 14
        have hfz31_15 := blk_frozen BK243.out 15
        have hfz31_16 := blk_frozen BK243.out 16
        have hfz31_17 := blk_frozen BK243.out 17
        have hfz31_18 := blk_frozen BK243.out 18
        go_wp2_with (first | ((with_reducible refine gate_load (t := 41) rfl ?_); refine load_all (g := gb243) (ty := 41) rfl rfl rfl (bx BK243.out) (by kernel_rfl) (by kernel_rfl) ?_; simp only [Act.put, List.setIfInBounds_toArray, List.set_cons_zero, List.set_cons_succ]) | ((with_reducible refine gate_callee (f := 118) rfl ?_); refine goesL_ (some 49) rfl rfl Try.func118 (by kernel_rfl) rfl #[.agg #[.int .i64 a0_3, .int .i64 a0_4, .slice A0_5 l0_5.length c0_5, .slice A0_6 l0_6.length c0_6]] rfl (by (try simp only [List.map_toArray, List.map_cons, List.map_nil]); first | done | rfl | (simp only [List.length_drop, List.length_take]; rfl)) ?_; (with_reducible refine (impl_SeqOk.calls k a0_3 a0_4 _ _ l0_5 _ _ l0_6 false _ ?side1 ?side2 ?side3 ?side4 A6.out).mono ?_); (case side1 => repeat (first | exact (Kd.C_below HR0_5.out HB.out) | (with_reducible refine Kd.C_alloc ?_ _) | (with_reducible refine Kd.C_drewN ?_ _) | (with_reducible refine Kd.C_drew ?_))); (case side2 => exact HC0_5.out); (case side3 => repeat (first | exact (Kd.C_below HR0_6.out HB.out) | (with_reducible refine Kd.C_alloc ?_ _) | (with_reducible refine Kd.C_drewN ?_ _) | (with_reducible refine Kd.C_drew ?_))); (case side4 => exact HC0_6.out); rintro e w32 ⟨rfl, hb⟩; refine ⟨_, rfl, ?_⟩; have n0_ := Aside0.mk (blk_below (bx BK243.out) hb); have n1_ := bs HB hb; clear BK243; clear HB; have BK243 := n0_; have HB := n1_; clear n0_ n1_; (try clear hb); (try clear hb2); (try clear hk); (try clear hi)))
        go_meet
        case rel => exact ⟨_, (true), (by first | rfl | (simp; done) | (simp [*]; done)), H', ⟨by first | omega | exact Nat.le_refl _⟩, ⟨by (with_reducible repeat (first | refine blk_drewN ?_ _ | refine blk_drew ?_ | refine blk_alloc ?_ _)); exact BK243.out⟩, ⟨bl⟩⟩
    case rest =>
      clear HC3
      (try clear c1); (try clear c2); (try clear p2); (try clear c5); (try clear c7); (try clear c8); (try clear c10); (try clear c11); (try clear c20); (try clear c20b0); (try clear c24); (try clear c24b0); (try clear c24b1); (try clear hcz11_0); (try clear hcz11_1); (try clear hcz11_10); (try clear hcz11_11); (try clear hcz11_12); (try clear hcz11_13); (try clear hcz11_14); (try clear hcz11_15); (try clear hcz11_16); (try clear hcz11_17); (try clear hcz11_18); (try clear hcz11_2); (try clear hcz11_3); (try clear hcz11_4); (try clear hcz11_5); (try clear hcz11_6); (try clear hcz11_7); (try clear hcz11_8); (try clear hcz11_9); (try clear hcz13_0); (try clear hcz13_1); (try clear hcz13_10); (try clear hcz13_11); (try clear hcz13_12); (try clear hcz13_13); (try clear hcz13_14); (try clear hcz13_15); (try clear hcz13_16); (try clear hcz13_17); (try clear hcz13_18); (try clear hcz13_2); (try clear hcz13_3); (try clear hcz13_4); (try clear hcz13_5); (try clear hcz13_6); (try clear hcz13_7); (try clear hcz13_8); (try clear hcz13_9); (try clear hcz15_0); (try clear hcz15_1); (try clear hcz15_10); (try clear hcz15_11); (try clear hcz15_12); (try clear hcz15_13); (try clear hcz15_14); (try clear hcz15_15); (try clear hcz15_16); (try clear hcz15_17); (try clear hcz15_18); (try clear hcz15_2); (try clear hcz15_3); (try clear hcz15_4); (try clear hcz15_5); (try clear hcz15_6); (try clear hcz15_7); (try clear hcz15_8); (try clear hcz15_9); (try clear hcz16_0); (try clear hcz16_1); (try clear hcz16_10); (try clear hcz16_11); (try clear hcz16_12); (try clear hcz16_13); (try clear hcz16_14); (try clear hcz16_15); (try clear hcz16_16); (try clear hcz16_17); (try clear hcz16_18); (try clear hcz16_2); (try clear hcz16_3); (try clear hcz16_4); (try clear hcz16_5); (try clear hcz16_6); (try clear hcz16_7); (try clear hcz16_8); (try clear hcz16_9); (try clear hcz18_0); (try clear hcz18_1); (try clear hcz18_10); (try clear hcz18_11); (try clear hcz18_12); (try clear hcz18_13); (try clear hcz18_14); (try clear hcz18_15); (try clear hcz18_16); (try clear hcz18_17); (try clear hcz18_18); (try clear hcz18_2); (try clear hcz18_3); (try clear hcz18_4); (try clear hcz18_5); (try clear hcz18_6); (try clear hcz18_7); (try clear hcz18_8); (try clear hcz18_9); (try clear hcz21_0); (try clear hcz21_1); (try clear hcz21_10); (try clear hcz21_11); (try clear hcz21_12); (try clear hcz21_13); (try clear hcz21_14); (try clear hcz21_15); (try clear hcz21_16); (try clear hcz21_17); (try clear hcz21_18); (try clear hcz21_2); (try clear hcz21_3); (try clear hcz21_4); (try clear hcz21_5); (try clear hcz21_6); (try clear hcz21_7); (try clear hcz21_8); (try clear hcz21_9); (try clear hcz23_0); (try clear hcz23_1); (try clear hcz23_10); (try clear hcz23_11); (try clear hcz23_12); (try clear hcz23_13); (try clear hcz23_14); (try clear hcz23_15); (try clear hcz23_16); (try clear hcz23_17); (try clear hcz23_18); (try clear hcz23_2); (try clear hcz23_3); (try clear hcz23_4); (try clear hcz23_5); (try clear hcz23_6); (try clear hcz23_7); (try clear hcz23_8); (try clear hcz23_9); (try clear hcz25_0); (try clear hcz25_1); (try clear hcz25_10); (try clear hcz25_11); (try clear hcz25_12); (try clear hcz25_13); (try clear hcz25_14); (try clear hcz25_15); (try clear hcz25_16); (try clear hcz25_17); (try clear hcz25_18); (try clear hcz25_2); (try clear hcz25_3); (try clear hcz25_4); (try clear hcz25_5); (try clear hcz25_6); (try clear hcz25_7); (try clear hcz25_8); (try clear hcz25_9); (try clear hcz27_0); (try clear hcz27_1); (try clear hcz27_10); (try clear hcz27_11); (try clear hcz27_12); (try clear hcz27_13); (try clear hcz27_14); (try clear hcz27_15); (try clear hcz27_16); (try clear hcz27_17); (try clear hcz27_18); (try clear hcz27_2); (try clear hcz27_3); (try clear hcz27_4); (try clear hcz27_5); (try clear hcz27_6); (try clear hcz27_7); (try clear hcz27_8); (try clear hcz27_9); (try clear hcz28_0); (try clear hcz28_1); (try clear hcz28_10); (try clear hcz28_11); (try clear hcz28_12); (try clear hcz28_13); (try clear hcz28_14); (try clear hcz28_15); (try clear hcz28_16); (try clear hcz28_17); (try clear hcz28_18); (try clear hcz28_2); (try clear hcz28_3); (try clear hcz28_4); (try clear hcz28_5); (try clear hcz28_6); (try clear hcz28_7); (try clear hcz28_8); (try clear hcz28_9); (try clear hcz30_0); (try clear hcz30_1); (try clear hcz30_10); (try clear hcz30_11); (try clear hcz30_12); (try clear hcz30_13); (try clear hcz30_14); (try clear hcz30_15); (try clear hcz30_16); (try clear hcz30_17); (try clear hcz30_18); (try clear hcz30_2); (try clear hcz30_3); (try clear hcz30_4); (try clear hcz30_5); (try clear hcz30_6); (try clear hcz30_7); (try clear hcz30_8); (try clear hcz30_9); (try clear hcz31_0); (try clear hcz31_1); (try clear hcz31_10); (try clear hcz31_11); (try clear hcz31_12); (try clear hcz31_13); (try clear hcz31_14); (try clear hcz31_15); (try clear hcz31_16); (try clear hcz31_17); (try clear hcz31_18); (try clear hcz31_2); (try clear hcz31_3); (try clear hcz31_4); (try clear hcz31_5); (try clear hcz31_6); (try clear hcz31_7); (try clear hcz31_8); (try clear hcz31_9); (try clear hcz5_0); (try clear hcz5_1); (try clear hcz5_10); (try clear hcz5_11); (try clear hcz5_12); (try clear hcz5_13); (try clear hcz5_14); (try clear hcz5_15); (try clear hcz5_16); (try clear hcz5_17); (try clear hcz5_18); (try clear hcz5_2); (try clear hcz5_3); (try clear hcz5_4); (try clear hcz5_5); (try clear hcz5_6); (try clear hcz5_7); (try clear hcz5_8); (try clear hcz5_9); (try clear hfz11_0); (try clear hfz11_1); (try clear hfz11_10); (try clear hfz11_11); (try clear hfz11_12); (try clear hfz11_13); (try clear hfz11_14); (try clear hfz11_15); (try clear hfz11_16); (try clear hfz11_17); (try clear hfz11_18); (try clear hfz11_2); (try clear hfz11_3); (try clear hfz11_4); (try clear hfz11_5); (try clear hfz11_6); (try clear hfz11_7); (try clear hfz11_8); (try clear hfz11_9); (try clear hfz13_0); (try clear hfz13_1); (try clear hfz13_10); (try clear hfz13_11); (try clear hfz13_12); (try clear hfz13_13); (try clear hfz13_14); (try clear hfz13_15); (try clear hfz13_16); (try clear hfz13_17); (try clear hfz13_18); (try clear hfz13_2); (try clear hfz13_3); (try clear hfz13_4); (try clear hfz13_5); (try clear hfz13_6); (try clear hfz13_7); (try clear hfz13_8); (try clear hfz13_9); (try clear hfz15_0); (try clear hfz15_1); (try clear hfz15_10); (try clear hfz15_11); (try clear hfz15_12); (try clear hfz15_13); (try clear hfz15_14); (try clear hfz15_15); (try clear hfz15_16); (try clear hfz15_17); (try clear hfz15_18); (try clear hfz15_2); (try clear hfz15_3); (try clear hfz15_4); (try clear hfz15_5); (try clear hfz15_6); (try clear hfz15_7); (try clear hfz15_8); (try clear hfz15_9); (try clear hfz16_0); (try clear hfz16_1); (try clear hfz16_10); (try clear hfz16_11); (try clear hfz16_12); (try clear hfz16_13); (try clear hfz16_14); (try clear hfz16_15); (try clear hfz16_16); (try clear hfz16_17); (try clear hfz16_18); (try clear hfz16_2); (try clear hfz16_3); (try clear hfz16_4); (try clear hfz16_5); (try clear hfz16_6); (try clear hfz16_7); (try clear hfz16_8); (try clear hfz16_9); (try clear hfz18_0); (try clear hfz18_1); (try clear hfz18_10); (try clear hfz18_11); (try clear hfz18_12); (try clear hfz18_13); (try clear hfz18_14); (try clear hfz18_15); (try clear hfz18_16); (try clear hfz18_17); (try clear hfz18_18); (try clear hfz18_2); (try clear hfz18_3); (try clear hfz18_4); (try clear hfz18_5); (try clear hfz18_6); (try clear hfz18_7); (try clear hfz18_8); (try clear hfz18_9); (try clear hfz21_0); (try clear hfz21_1); (try clear hfz21_10); (try clear hfz21_11); (try clear hfz21_12); (try clear hfz21_13); (try clear hfz21_14); (try clear hfz21_15); (try clear hfz21_16); (try clear hfz21_17); (try clear hfz21_18); (try clear hfz21_2); (try clear hfz21_3); (try clear hfz21_4); (try clear hfz21_5); (try clear hfz21_6); (try clear hfz21_7); (try clear hfz21_8); (try clear hfz21_9); (try clear hfz23_0); (try clear hfz23_1); (try clear hfz23_10); (try clear hfz23_11); (try clear hfz23_12); (try clear hfz23_13); (try clear hfz23_14); (try clear hfz23_15); (try clear hfz23_16); (try clear hfz23_17); (try clear hfz23_18); (try clear hfz23_2); (try clear hfz23_3); (try clear hfz23_4); (try clear hfz23_5); (try clear hfz23_6); (try clear hfz23_7); (try clear hfz23_8); (try clear hfz23_9); (try clear hfz25_0); (try clear hfz25_1); (try clear hfz25_10); (try clear hfz25_11); (try clear hfz25_12); (try clear hfz25_13); (try clear hfz25_14); (try clear hfz25_15); (try clear hfz25_16); (try clear hfz25_17); (try clear hfz25_18); (try clear hfz25_2); (try clear hfz25_3); (try clear hfz25_4); (try clear hfz25_5); (try clear hfz25_6); (try clear hfz25_7); (try clear hfz25_8); (try clear hfz25_9); (try clear hfz27_0); (try clear hfz27_1); (try clear hfz27_10); (try clear hfz27_11); (try clear hfz27_12); (try clear hfz27_13); (try clear hfz27_14); (try clear hfz27_15); (try clear hfz27_16); (try clear hfz27_17); (try clear hfz27_18); (try clear hfz27_2); (try clear hfz27_3); (try clear hfz27_4); (try clear hfz27_5); (try clear hfz27_6); (try clear hfz27_7); (try clear hfz27_8); (try clear hfz27_9); (try clear hfz28_0); (try clear hfz28_1); (try clear hfz28_10); (try clear hfz28_11); (try clear hfz28_12); (try clear hfz28_13); (try clear hfz28_14); (try clear hfz28_15); (try clear hfz28_16); (try clear hfz28_17); (try clear hfz28_18); (try clear hfz28_2); (try clear hfz28_3); (try clear hfz28_4); (try clear hfz28_5); (try clear hfz28_6); (try clear hfz28_7); (try clear hfz28_8); (try clear hfz28_9); (try clear hfz30_0); (try clear hfz30_1); (try clear hfz30_10); (try clear hfz30_11); (try clear hfz30_12); (try clear hfz30_13); (try clear hfz30_14); (try clear hfz30_15); (try clear hfz30_16); (try clear hfz30_17); (try clear hfz30_18); (try clear hfz30_2); (try clear hfz30_3); (try clear hfz30_4); (try clear hfz30_5); (try clear hfz30_6); (try clear hfz30_7); (try clear hfz30_8); (try clear hfz30_9); (try clear hfz31_0); (try clear hfz31_1); (try clear hfz31_10); (try clear hfz31_11); (try clear hfz31_12); (try clear hfz31_13); (try clear hfz31_14); (try clear hfz31_15); (try clear hfz31_16); (try clear hfz31_17); (try clear hfz31_18); (try clear hfz31_2); (try clear hfz31_3); (try clear hfz31_4); (try clear hfz31_5); (try clear hfz31_6); (try clear hfz31_7); (try clear hfz31_8); (try clear hfz31_9); (try clear hfz5_0); (try clear hfz5_1); (try clear hfz5_10); (try clear hfz5_11); (try clear hfz5_12); (try clear hfz5_13); (try clear hfz5_14); (try clear hfz5_15); (try clear hfz5_16); (try clear hfz5_17); (try clear hfz5_18); (try clear hfz5_2); (try clear hfz5_3); (try clear hfz5_4); (try clear hfz5_5); (try clear hfz5_6); (try clear hfz5_7); (try clear hfz5_8); (try clear hfz5_9)
      obtain ⟨kq, x80_2, rfl, HA, HJ2, BK243, HB⟩ := hcut
      cases kq with
      | zero => exact absurd HA.out (by simp [impl_DecOk.j0])
      | succ kj2 =>
        have H := HA.out
        clear HA
        simp only [impl_DecOk.j0] at H
        by_cases c33 : x80_2 = true
        · subst c33
          rw [if_pos rfl] at H
          obtain rfl := Option.some.inj H
          go_wp2
          go_ret
          exact ⟨rr, bl⟩
        · replace c33 := Bool.eq_false_iff.mpr c33
          subst c33
          have H1 : (if 0 ≤ a0_4 then ((impl_within.f a0_11 (-1) (wrap64 ((shl .i64 1 a0_4) - 1))).bind fun t247 => (if t247 = true then ((impl_TilesOf.f kj2 a0_3 a0_4 l0_5 l0_6).bind fun t248 => ((impl_within.f a0_12 0 (wrap64 (t248 - 1))).bind fun t249 => (impl_DecOk.j1 kj2 (!t249) true a0_1 a0_2 a0_3 a0_4 l0_5 l0_6 a0_7 a0_8 a0_9 a0_10 a0_11 a0_12 a0_13 a0_14 a0_15 a0_16 a0_17 a0_18))) else (impl_DecOk.j1 kj2 true true a0_1 a0_2 a0_3 a0_4 l0_5 l0_6 a0_7 a0_8 a0_9 a0_10 a0_11 a0_12 a0_13 a0_14 a0_15 a0_16 a0_17 a0_18))) else (none)) = some r := by rw [if_neg (show ¬ (false = true) by decide)] at H; exact H
          clear H
          have H := H1
          clear H1
          have HC34 := Aside0.mk H
          clear H
          go_upto_region 5 with (fail)
          go_cut [99] (fun v99 wc => ∃ (kq : Nat) (x99_33 : Bool), v99 = .bool x99_33 ∧ Aside0 (impl_DecOk.j1 kq x99_33 true a0_1 a0_2 a0_3 a0_4 l0_5 l0_6 a0_7 a0_8 a0_9 a0_10 a0_11 a0_12 a0_13 a0_14 a0_15 a0_16 a0_17 a0_18 = some r) ∧ Aside0 (kq ≤ kj2) ∧ Aside0 (wc.heap[gb243]? = some (.cells #[.bool true, .bool a0_1, .bool a0_2, .int .i64 a0_3, .int .i64 a0_4, (.slice A0_5 l0_5.length c0_5), (.slice A0_6 l0_6.length c0_6), .int .i64 a0_7, .bool a0_8, .bool a0_9, .bool a0_10, .int .i64 a0_11, .int .i64 a0_12, .int .i64 a0_13, .int .i64 a0_14, .string a0_15, .int .i64 a0_16, .int .i64 a0_17, .string a0_18] 41 (0, 0))) ∧ Aside0 (Below w.heap.size w wc))
          case first =>
            have H := HC34.out
            clear HC34
            by_cases c35 : 0 ≤ a0_4
            · rw [if_pos c35] at H
              have c35b0 := eq_true c35
              have c35b1 : decide (0 ≤ a0_4) = true := decide_eq_true c35
              clear c35
              obtain ⟨ji36, hji36⟩ : ∃ j_ : Int, (shl .i64 1 a0_4) = j_ := ⟨_, rfl⟩
              replace H : ((impl_within.f a0_11 (-1) (wrap64 ((ji36) - 1))).bind fun t247 => (if t247 = true then ((impl_TilesOf.f kj2 a0_3 a0_4 l0_5 l0_6).bind fun t248 => ((impl_within.f a0_12 0 (wrap64 (t248 - 1))).bind fun t249 => (impl_DecOk.j1 kj2 (!t249) true a0_1 a0_2 a0_3 a0_4 l0_5 l0_6 a0_7 a0_8 a0_9 a0_10 a0_11 a0_12 a0_13 a0_14 a0_15 a0_16 a0_17 a0_18))) else (impl_DecOk.j1 kj2 true true a0_1 a0_2 a0_3 a0_4 l0_5 l0_6 a0_7 a0_8 a0_9 a0_10 a0_11 a0_12 a0_13 a0_14 a0_15 a0_16 a0_17 a0_18))) = some r := by first | (rw [hji36] at H; exact H) | (simp only [hji36] at H ⊢; exact H)
              have hji36_ : (IntKind.i64.wrap (1 * 2 ^ min a0_4.toNat 64)) = ji36 := hji36
              have hji36z : a0_4 ≤ 64 → (IntKind.i64.wrap (1 * 2 ^ a0_4.toNat)) = ji36 := shl_small hji36
              have hji36u : (IntKind.i64.wrap (2 ^ min a0_4.toNat 64)) = ji36 := by have h_ := hji36_; rw [Int.one_mul] at h_; exact h_
              have hji36v : a0_4 ≤ 64 → (IntKind.i64.wrap (2 ^ a0_4.toNat)) = ji36 := fun hle_ => by have h_ := hji36z hle_; rw [Int.one_mul] at h_; exact h_
              have hji36y : (wrap64 (1 * 2 ^ min a0_4.toNat 64)) = ji36 := (i64_w _).symm.trans hji36_
              have hji36x : a0_4 ≤ 64 → (wrap64 (1 * 2 ^ a0_4.toNat)) = ji36 := fun h_ => (i64_w _).symm.trans (hji36z h_)
              replace H := Option.bind_eq_some_iff.mp H
              obtain ⟨t247, A370, H⟩ := H
              (try dsimp only at H)
              have A37 := Aside0.mk A370
              clear A370
              by_cases c38 : t247 = true
              · subst c38
                rw [if_pos rfl] at H
                replace H := Option.bind_eq_some_iff.mp H
                obtain ⟨t248, A390, H⟩ := H
                (try dsimp only at H)
                have A39 := Aside0.mk A390
                clear A390
                replace H := Option.bind_eq_some_iff.mp H
                obtain ⟨t249, A400, H⟩ := H
                (try dsimp only at H)
                have A40 := Aside0.mk A400
                clear A400
                have H' := Aside0.mk H
                clear H
                try go_wp2
                have n0_ := Aside0.mk (blk_drew BK243.out)
                have n1_ := Aside0.mk (below_drew1 HB.out)
                clear BK243
                clear HB
                have BK243 := n0_
                have HB := n1_
                clear n0_ n1_
                refine start_ (n := 19) (S := fun w' => w'.heap[gb243]? = some (.cells #[.bool true, .bool a0_1, .bool a0_2, .int .i64 a0_3, .int .i64 a0_4, .slice A0_5 l0_5.length c0_5, .slice A0_6 l0_6.length c0_6, .int .i64 a0_7, .bool a0_8, .bool a0_9, .bool a0_10, .int .i64 a0_11, .int .i64 a0_12, .int .i64 a0_13, .int .i64 a0_14, .string a0_15, .int .i64 a0_16, .int .i64 a0_17, .string a0_18] 41 (0, 0))) (ds := []) (tf 0 19) (by kernel_rfl) rfl rfl BK243.out (fun hHeld => ?_); refine with_tabW impl_DecOk.tab5 impl_DecOk.bits5 (fun HT_ HW_ => ?_)
                generalize wc.drew = w41 at BK243 HB hHeld ⊢
                refine pure_ (i := 0) (N := some 81) (v := ?_) (a' := ?_) (tf 1 18) rfl rfl (any_of HT_.out (by kernel_rfl)) (fun _ _ _ h => h) (Or.inl ⟨by rfl, ?_⟩) ?_ ?_
                rotate_left
                · intro w'
                  go_simp
                  with_reducible rfl
                rotate_left; (· (simp only [Act.put, List.setIfInBounds_toArray, List.set_cons_zero, List.set_cons_succ, i64_w, i32_w]; rfl))
                refine pure_ (i := 2) (N := some 83) (v := ?_) (a' := ?_) #[true, false, true, false, false, false, false, false, false, false, false, false, false, false, false, false, false, false, false] rfl rfl (any_of HT_.out (by kernel_rfl)) (fun _ _ _ h => h) (Or.inl ⟨by rfl, ?_⟩) ?_ ?_
                rotate_left
                · intro w'
                  go_simp
                  with_reducible rfl
                rotate_left; (· (simp only [Act.put, List.setIfInBounds_toArray, List.set_cons_zero, List.set_cons_succ, i64_w, i32_w]; rfl))
                refine pure_ (i := 3) (N := some 84) (v := ?_) (a' := ?_) #[true, false, true, true, false, false, false, false, false, false, false, false, false, false, false, false, false, false, false] rfl rfl (any_of HT_.out (by kernel_rfl)) (fun _ _ _ h => h) (Or.inl ⟨by rfl, ?_⟩) ?_ ?_
                rotate_left
                · intro w'
                  go_simp
                  with_reducible rfl
                rotate_left; (· (simp only [Act.put, List.setIfInBounds_toArray, List.set_cons_zero, List.set_cons_succ, i64_w, i32_w]; rfl))
                refine take_ (i := 1) (N := some 82) (v := ?_) (a' := ?_) (tf 4 15) rfl rfl (take_ofW HT_.out HW_.out (by kernel_rfl)) (fun _ _ _ h => h) (Or.inl ⟨by rfl, ?_⟩) hHeld ?_ ?_
                rotate_left
                · intro w' z243_
                  have hcz243_ : ∀ i, w'.cell? ⟨gb243, i, none⟩ = _ := blk_cell z243_
                  have hfz243_ := blk_frozen z243_
                  first | (refine Eq.trans (load_here (g := gb243) (ty := 41) rfl rfl z243_ (by kernel_rfl) (by kernel_rfl)) ?_; with_reducible rfl) | (go_simp; with_reducible rfl)
                rotate_left; (· (simp only [Act.put, List.setIfInBounds_toArray, List.set_cons_zero, List.set_cons_succ, i64_w, i32_w]; rfl))
                refine take_ (i := 4) (N := some 85) (v := ?_) (a' := ?_) (tf 5 14) rfl rfl (take_ofW HT_.out HW_.out (by kernel_rfl)) (fun _ _ _ h => h) (Or.inl ⟨by rfl, ?_⟩) hHeld ?_ ?_
                rotate_left
                · intro w' z243_
                  have hcz243_ : ∀ i, w'.cell? ⟨gb243, i, none⟩ = _ := blk_cell z243_
                  have hfz243_ := blk_frozen z243_
                  first | (refine Eq.trans (load_here (g := gb243) (ty := 41) rfl rfl z243_ (by kernel_rfl) (by kernel_rfl)) ?_; with_reducible rfl) | (go_simp; with_reducible rfl)
                rotate_left; (· (simp only [Act.put, List.setIfInBounds_toArray, List.set_cons_zero, List.set_cons_succ, i64_w, i32_w]; rfl))
                refine pure_ (i := 5) (N := some 86) (v := ?_) (a' := ?_) (tf 6 13) rfl rfl (any_of HT_.out (by kernel_rfl)) (fun _ _ _ h => h) (Or.inl ⟨by rfl, ?_⟩) ?_ ?_
                rotate_left
                · intro w'
                  go_simp
                  with_reducible rfl
                rotate_left; (· (simp only [Act.put, List.setIfInBounds_toArray, List.set_cons_zero, List.set_cons_succ, i64_w, i32_w]; rfl))
                refine pure_ (i := 6) (N := some 87) (v := ?_) (a' := ?_) (tf 7 12) rfl rfl (any_of HT_.out (by kernel_rfl)) (fun _ _ _ h => h) (Or.inl ⟨by rfl, ?_⟩) ?_ ?_
                rotate_left
                · intro w'
                  go_simp
                  with_reducible rfl
                rotate_left; (· (simp only [Act.put, List.setIfInBounds_toArray, List.set_cons_zero, List.set_cons_succ, i64_w, i32_w]; rfl))
                refine one_ (i := 7) (N := some 88) (tf 8 11) rfl rfl (one_of HT_.out (by kernel_rfl)) (by decide) (fun K hK => ?_)
                refine goes_ Try.func78 (by kernel_rfl) rfl #[.int .i64 a0_11, .int .i64 (-1), .int .i64 (wrap64 ((ji36) - 1))] (by rfl) rfl rfl (by (try simp only [List.map_toArray, List.map_cons, List.map_nil]); first | done | (simp only [hji36]; rfl) | rfl | (simp only [List.length_drop, List.length_take]; rfl)) ?_
                with_reducible refine (impl_within.calls a0_11 (-1) (wrap64 ((ji36) - 1)) true _ A37.out).mono ?_
                rintro e w' ⟨rfl, ⟨nd, rfl⟩⟩
                refine ⟨_, rfl, ?_⟩
                refine hK.out _ _ BK243.out (fun hHeld => ?_)
                clear hK K
                refine norm_ (a' := ?_) ?_ ?_
                rotate_left
                · show Act.put _ (some 88) _ = _
                  simp only [Act.put, List.setIfInBounds_toArray, List.set_cons_zero, List.set_cons_succ, i64_w, i32_w]
                  rfl
                refine pure_ (i := 8) (N := some 89) (v := ?_) (a' := ?_) (tf 9 10) rfl rfl (any_of HT_.out (by kernel_rfl)) (fun _ _ _ h => h) (Or.inl ⟨by rfl, ?_⟩) ?_ ?_
                rotate_left
                · intro w'
                  go_simp
                  with_reducible rfl
                rotate_left; (· (simp only [Act.put, List.setIfInBounds_toArray, List.set_cons_zero, List.set_cons_succ, i64_w, i32_w]; rfl))
                refine pure_ (i := 9) (N := some 90) (v := ?_) (a' := ?_) (tf 10 9) rfl rfl (any_of HT_.out (by kernel_rfl)) (fun _ _ _ h => h) (Or.inl ⟨by rfl, ?_⟩) ?_ ?_
                rotate_left
                · intro w'
                  go_simp
                  with_reducible rfl
                rotate_left; (· (simp only [Act.put, List.setIfInBounds_toArray, List.set_cons_zero, List.set_cons_succ, i64_w, i32_w]; rfl))
                refine pure_ (i := 10) (N := some 91) (v := ?_) (a' := ?_) (tf 11 8) rfl rfl (any_of HT_.out (by kernel_rfl)) (fun _ _ _ h => h) (Or.inl ⟨by rfl, ?_⟩) ?_ ?_
                rotate_left
                · intro w'
                  go_simp
                  with_reducible rfl
                rotate_left; (· (simp only [Act.put, List.setIfInBounds_toArray, List.set_cons_zero, List.set_cons_succ, i64_w, i32_w]; rfl))
                refine pure_ (i := 12) (N := some 93) (v := ?_) (a' := ?_) #[true, true, true, true, true, true, true, true, true, true, true, false, true, false, false, false, false, false, false] rfl rfl (any_of HT_.out (by kernel_rfl)) (fun _ _ _ h => h) (Or.inl ⟨by rfl, ?_⟩) ?_ ?_
                rotate_left
                · intro w'
                  go_simp
                  with_reducible rfl
                rotate_left; (· (simp only [Act.put, List.setIfInBounds_toArray, List.set_cons_zero, List.set_cons_succ, i64_w, i32_w]; rfl))
                refine take_ (i := 11) (N := some 92) (v := ?_) (a' := ?_) (tf 13 6) rfl rfl (take_ofW HT_.out HW_.out (by kernel_rfl)) (fun _ _ _ h => h) (Or.inl ⟨by rfl, ?_⟩) hHeld ?_ ?_
                rotate_left
                · intro w' z243_
                  have hcz243_ : ∀ i, w'.cell? ⟨gb243, i, none⟩ = _ := blk_cell z243_
                  have hfz243_ := blk_frozen z243_
                  first | (refine Eq.trans (load_here (g := gb243) (ty := 41) rfl rfl z243_ (by kernel_rfl) (by kernel_rfl)) ?_; with_reducible rfl) | (go_simp; with_reducible rfl)
                rotate_left; (· (simp only [Act.put, List.setIfInBounds_toArray, List.set_cons_zero, List.set_cons_succ, i64_w, i32_w]; rfl))
                refine take_ (i := 13) (N := some 94) (v := ?_) (a' := ?_) (tf 14 5) rfl rfl (take_ofW HT_.out HW_.out (by kernel_rfl)) (fun _ _ _ h => h) (Or.inl ⟨by rfl, ?_⟩) hHeld ?_ ?_
                rotate_left
                · intro w' z243_
                  have hcz243_ : ∀ i, w'.cell? ⟨gb243, i, none⟩ = _ := blk_cell z243_
                  have hfz243_ := blk_frozen z243_
                  first | (refine Eq.trans (load_here (g := gb243) (ty := 41) rfl rfl z243_ (by kernel_rfl) (by kernel_rfl)) ?_; with_reducible rfl) | (go_simp; with_reducible rfl)
                rotate_left; (· (simp only [Act.put, List.setIfInBounds_toArray, List.set_cons_zero, List.set_cons_succ, i64_w, i32_w]; rfl))
                refine one_ (i := 14) (N := some 95) (tf 15 4) rfl rfl (one_of HT_.out (by kernel_rfl)) (by decide) (fun K hK => ?_)
                refine goes_ Try.func120 (by kernel_rfl) rfl #[.agg #[.int .i64 a0_3, .int .i64 a0_4, .slice A0_5 l0_5.length c0_5, .slice A0_6 l0_6.length c0_6]] (by rfl) rfl rfl (by (try simp only [List.map_toArray, List.map_cons, List.map_nil]); first | done | rfl | (simp only [List.length_drop, List.length_take]; rfl)) ?_
                with_reducible refine (impl_TilesOf.calls kj2 a0_3 a0_4 _ _ l0_5 _ _ l0_6 t248 _ ?side1 ?side2 ?side3 ?side4 A39.out).mono ?_
                (case side1 => repeat (first | exact (Kd.C_below HR0_5.out bl) | (with_reducible refine Kd.C_alloc ?_ _) | (with_reducible refine Kd.C_drewN ?_ _) | (with_reducible refine Kd.C_drew ?_)))
                (case side2 => exact HC0_5.out)
                (case side3 => repeat (first | exact (Kd.C_below HR0_6.out bl) | (with_reducible refine Kd.C_alloc ?_ _) | (with_reducible refine Kd.C_drewN ?_ _) | (with_reducible refine Kd.C_drew ?_)))
                (case side4 => exact HC0_6.out)
                rintro e w42 ⟨rfl, hb⟩
                refine ⟨_, rfl, ?_⟩
                have n0_ := Aside0.mk (blk_below (bx BK243.out) hb)
                have n1_ := bs HB hb
                clear BK243
                clear HB
                have BK243 := n0_
                have HB := n1_
                clear n0_ n1_
                (try clear hb)
                (try clear hb2)
                (try clear hk)
                (try clear hi)
                refine hK.out _ _ BK243.out (fun hHeld => ?_)
                clear hK K
                refine norm_ (a' := ?_) ?_ ?_
                rotate_left
                · show Act.put _ (some 95) _ = _
                  simp only [Act.put, List.setIfInBounds_toArray, List.set_cons_zero, List.set_cons_succ, i64_w, i32_w]
                  rfl
                refine pure_ (i := 15) (N := some 96) (v := ?_) (a' := ?_) (tf 16 3) rfl rfl (any_of HT_.out (by kernel_rfl)) (fun _ _ _ h => h) (Or.inl ⟨by rfl, ?_⟩) ?_ ?_
                rotate_left
                · intro w'
                  go_simp
                  with_reducible rfl
                rotate_left; (· (simp only [Act.put, List.setIfInBounds_toArray, List.set_cons_zero, List.set_cons_succ, i64_w, i32_w]; rfl))
                refine one_ (i := 16) (N := some 97) (tf 17 2) rfl rfl (one_of HT_.out (by kernel_rfl)) (by decide) (fun K hK => ?_)
                refine goes_ Try.func78 (by kernel_rfl) rfl #[.int .i64 a0_12, .int .i64 0, .int .i64 (wrap64 (t248 - 1))] (by rfl) rfl rfl (by (try simp only [List.map_toArray, List.map_cons, List.map_nil]); first | done | rfl | (simp only [List.length_drop, List.length_take]; rfl)) ?_
                with_reducible refine (impl_within.calls a0_12 0 (wrap64 (t248 - 1)) t249 _ A40.out).mono ?_
                rintro e w' ⟨rfl, ⟨nd, rfl⟩⟩
                refine ⟨_, rfl, ?_⟩
                refine hK.out _ _ BK243.out (fun hHeld => ?_)
                clear hK K
                refine norm_ (a' := ?_) ?_ ?_
                rotate_left
                · show Act.put _ (some 97) _ = _
                  simp only [Act.put, List.setIfInBounds_toArray, List.set_cons_zero, List.set_cons_succ, i64_w, i32_w]
                  rfl
                refine pure_ (i := 17) (N := some 98) (v := ?_) (a' := ?_) (tf 18 1) rfl rfl (any_of HT_.out (by kernel_rfl)) (fun _ _ _ h => h) (Or.inl ⟨by rfl, ?_⟩) ?_ ?_
                rotate_left
                · intro w'
                  go_simp
                  with_reducible rfl
                rotate_left; (· (simp only [Act.put, List.setIfInBounds_toArray, List.set_cons_zero, List.set_cons_succ, i64_w, i32_w]; rfl))
                refine pure_ (i := 18) (N := some 99) (v := ?_) (a' := ?_) (tf 19 0) rfl rfl (any_of HT_.out (by kernel_rfl)) (fun _ _ _ h => h) (Or.inl ⟨by rfl, ?_⟩) ?_ ?_
                rotate_left
                · intro w'
                  go_simp
                  with_reducible rfl
                rotate_left; (· (simp only [Act.put, List.setIfInBounds_toArray, List.set_cons_zero, List.set_cons_succ, i64_w, i32_w]; rfl))
                refine done_ (done_of HT_.out (by kernel_rfl)) ?_
                try go_wp2
                go_meet
                case rel => exact ⟨_, (!t249), (by first | rfl | (simp; done) | (simp [*]; done)), H', ⟨by have := HJ2.out; first | omega | exact Nat.le_refl _⟩, ⟨by (with_reducible repeat (first | refine blk_drewN ?_ _ | refine blk_drew ?_ | refine blk_alloc ?_ _)); exact BK243.out⟩, ⟨bl⟩⟩
              · replace c38 := Bool.eq_false_iff.mpr c38
                subst c38
                have H1 : (impl_DecOk.j1 kj2 true true a0_1 a0_2 a0_3 a0_4 l0_5 l0_6 a0_7 a0_8 a0_9 a0_10 a0_11 a0_12 a0_13 a0_14 a0_15 a0_16 a0_17 a0_18) = some r := by rw [if_neg (show ¬ (false = true) by decide)] at H; exact H
                clear H
                have H := H1
                clear H1
                have H' := Aside0.mk H
                clear H
                try go_wp2
                have n0_ := Aside0.mk (blk_drew BK243.out)
                have n1_ := Aside0.mk (below_drew1 HB.out)
                clear BK243
                clear HB
                have BK243 := n0_
                have HB := n1_
                clear n0_ n1_
                refine start_ (n := 19) (S := fun w' => w'.heap[gb243]? = some (.cells #[.bool true, .bool a0_1, .bool a0_2, .int .i64 a0_3, .int .i64 a0_4, .slice A0_5 l0_5.length c0_5, .slice A0_6 l0_6.length c0_6, .int .i64 a0_7, .bool a0_8, .bool a0_9, .bool a0_10, .int .i64 a0_11, .int .i64 a0_12, .int .i64 a0_13, .int .i64 a0_14, .string a0_15, .int .i64 a0_16, .int .i64 a0_17, .string a0_18] 41 (0, 0))) (ds := []) (tf 0 19) (by kernel_rfl) rfl rfl BK243.out (fun hHeld => ?_); refine with_tabW impl_DecOk.tab5 impl_DecOk.bits5 (fun HT_ HW_ => ?_)
                generalize wc.drew = w43 at BK243 HB hHeld ⊢
                refine pure_ (i := 0) (N := some 81) (v := ?_) (a' := ?_) (tf 1 18) rfl rfl (any_of HT_.out (by kernel_rfl)) (fun _ _ _ h => h) (Or.inl ⟨by rfl, ?_⟩) ?_ ?_
                rotate_left
                · intro w'
                  go_simp
                  with_reducible rfl
                rotate_left; (· (simp only [Act.put, List.setIfInBounds_toArray, List.set_cons_zero, List.set_cons_succ, i64_w, i32_w]; rfl))
                refine pure_ (i := 2) (N := some 83) (v := ?_) (a' := ?_) #[true, false, true, false, false, false, false, false, false, false, false, false, false, false, false, false, false, false, false] rfl rfl (any_of HT_.out (by kernel_rfl)) (fun _ _ _ h => h) (Or.inl ⟨by rfl, ?_⟩) ?_ ?_
                rotate_left
                · intro w'
                  go_simp
                  with_reducible rfl
                rotate_left; (· (simp only [Act.put, List.setIfInBounds_toArray, List.set_cons_zero, List.set_cons_succ, i64_w, i32_w]; rfl))
                refine pure_ (i := 3) (N := some 84) (v := ?_) (a' := ?_) #[true, false, true, true, false, false, false, false, false, false, false, false, false, false, false, false, false, false, false] rfl rfl (any_of HT_.out (by kernel_rfl)) (fun _ _ _ h => h) (Or.inl ⟨by rfl, ?_⟩) ?_ ?_
                rotate_left
                · intro w'
                  go_simp
                  with_reducible rfl
                rotate_left; (· (simp only [Act.put, List.setIfInBounds_toArray, List.set_cons_zero, List.set_cons_succ, i64_w, i32_w]; rfl))
                refine take_ (i := 1) (N := some 82) (v := ?_) (a' := ?_) (tf 4 15) rfl rfl (take_ofW HT_.out HW_.out (by kernel_rfl)) (fun _ _ _ h => h) (Or.inl ⟨by rfl, ?_⟩) hHeld ?_ ?_
                rotate_left
                · intro w' z243_
                  have hcz243_ : ∀ i, w'.cell? ⟨gb243, i, none⟩ = _ := blk_cell z243_
                  have hfz243_ := blk_frozen z243_
                  first | (refine Eq.trans (load_here (g := gb243) (ty := 41) rfl rfl z243_ (by kernel_rfl) (by kernel_rfl)) ?_; with_reducible rfl) | (go_simp; with_reducible rfl)
                rotate_left; (· (simp only [Act.put, List.setIfInBounds_toArray, List.set_cons_zero, List.set_cons_succ, i64_w, i32_w]; rfl))
                refine take_ (i := 4) (N := some 85) (v := ?_) (a' := ?_) (tf 5 14) rfl rfl (take_ofW HT_.out HW_.out (by kernel_rfl)) (fun _ _ _ h => h) (Or.inl ⟨by rfl, ?_⟩) hHeld ?_ ?_
                rotate_left
                · intro w' z243_
                  have hcz243_ : ∀ i, w'.cell? ⟨gb243, i, none⟩ = _ := blk_cell z243_
                  have hfz243_ := blk_frozen z243_
                  first | (refine Eq.trans (load_here (g := gb243) (ty := 41) rfl rfl z243_ (by kernel_rfl) (by kernel_rfl)) ?_; with_reducible rfl) | (go_simp; with_reducible rfl)
                rotate_left; (· (simp only [Act.put, List.setIfInBounds_toArray, List.set_cons_zero, List.set_cons_succ, i64_w, i32_w]; rfl))
                refine pure_ (i := 5) (N := some 86) (v := ?_) (a' := ?_) (tf 6 13) rfl rfl (any_of HT_.out (by kernel_rfl)) (fun _ _ _ h => h) (Or.inl ⟨by rfl, ?_⟩) ?_ ?_
                rotate_left
                · intro w'
                  go_simp
                  with_reducible rfl
                rotate_left; (· (simp only [Act.put, List.setIfInBounds_toArray, List.set_cons_zero, List.set_cons_succ, i64_w, i32_w]; rfl))
                refine pure_ (i := 6) (N := some 87) (v := ?_) (a' := ?_) (tf 7 12) rfl rfl (any_of HT_.out (by kernel_rfl)) (fun _ _ _ h => h) (Or.inl ⟨by rfl, ?_⟩) ?_ ?_
                rotate_left
                · intro w'
                  go_simp
                  with_reducible rfl
                rotate_left; (· (simp only [Act.put, List.setIfInBounds_toArray, List.set_cons_zero, List.set_cons_succ, i64_w, i32_w]; rfl))
                refine one_ (i := 7) (N := some 88) (tf 8 11) rfl rfl (one_of HT_.out (by kernel_rfl)) (by decide) (fun K hK => ?_)
                refine goes_ Try.func78 (by kernel_rfl) rfl #[.int .i64 a0_11, .int .i64 (-1), .int .i64 (wrap64 ((ji36) - 1))] (by rfl) rfl rfl (by (try simp only [List.map_toArray, List.map_cons, List.map_nil]); first | done | (simp only [hji36]; rfl) | rfl | (simp only [List.length_drop, List.length_take]; rfl)) ?_
                with_reducible refine (impl_within.calls a0_11 (-1) (wrap64 ((ji36) - 1)) false _ A37.out).mono ?_
                rintro e w' ⟨rfl, ⟨nd, rfl⟩⟩
                refine ⟨_, rfl, ?_⟩
                refine hK.out _ _ BK243.out (fun hHeld => ?_)
                clear hK K
                refine norm_ (a' := ?_) ?_ ?_
                rotate_left
                · show Act.put _ (some 88) _ = _
                  simp only [Act.put, List.setIfInBounds_toArray, List.set_cons_zero, List.set_cons_succ, i64_w, i32_w]
                  rfl
                refine pure_ (i := 8) (N := some 89) (v := ?_) (a' := ?_) (tf 9 10) rfl rfl (any_of HT_.out (by kernel_rfl)) (fun _ _ _ h => h) (Or.inl ⟨by rfl, ?_⟩) ?_ ?_
                rotate_left
                · intro w'
                  go_simp
                  with_reducible rfl
                rotate_left; (· (simp only [Act.put, List.setIfInBounds_toArray, List.set_cons_zero, List.set_cons_succ, i64_w, i32_w]; rfl))
                refine pure_ (i := 9) (N := some 90) (v := ?_) (a' := ?_) (tf 10 9) rfl rfl (any_of HT_.out (by kernel_rfl)) (fun _ _ _ h => h) (Or.inl ⟨by rfl, ?_⟩) ?_ ?_
                rotate_left
                · intro w'
                  go_simp
                  with_reducible rfl
                rotate_left; (· (simp only [Act.put, List.setIfInBounds_toArray, List.set_cons_zero, List.set_cons_succ, i64_w, i32_w]; rfl))
                refine pure_ (i := 10) (N := some 91) (v := undef) (a' := ?_) (tf 11 8) rfl rfl (any_of HT_.out (by kernel_rfl)) (fun _ _ _ h => h) (Or.inr ⟨by rfl, rfl⟩) ?_ ?_
                rotate_left; (· (simp only [Act.put, List.setIfInBounds_toArray, List.set_cons_zero, List.set_cons_succ, i64_w, i32_w]; rfl))
                refine pure_ (i := 11) (N := some 92) (v := undef) (a' := ?_) (tf 12 7) rfl rfl (any_of HT_.out (by kernel_rfl)) (fun _ _ _ h => h) (Or.inr ⟨by rfl, rfl⟩) ?_ ?_
                rotate_left; (· (simp only [Act.put, List.setIfInBounds_toArray, List.set_cons_zero, List.set_cons_succ, i64_w, i32_w]; rfl))
                refine pure_ (i := 12) (N := some 93) (v := undef) (a' := ?_) (tf 13 6) rfl rfl (any_of HT_.out (by kernel_rfl)) (fun _ _ _ h => h) (Or.inr ⟨by rfl, rfl⟩) ?_ ?_
                rotate_left; (· (simp only [Act.put, List.setIfInBounds_toArray, List.set_cons_zero, List.set_cons_succ, i64_w, i32_w]; rfl))
                refine pure_ (i := 13) (N := some 94) (v := undef) (a' := ?_) (tf 14 5) rfl rfl (any_of HT_.out (by kernel_rfl)) (fun _ _ _ h => h) (Or.inr ⟨by rfl, rfl⟩) ?_ ?_
                rotate_left; (· (simp only [Act.put, List.setIfInBounds_toArray, List.set_cons_zero, List.set_cons_succ, i64_w, i32_w]; rfl))
                refine pure_ (i := 14) (N := some 95) (v := undef) (a' := ?_) (tf 15 4) rfl rfl (any_of HT_.out (by kernel_rfl)) (fun _ _ _ h => h) (Or.inr ⟨by rfl, rfl⟩) ?_ ?_
                rotate_left; (· (simp only [Act.put, List.setIfInBounds_toArray, List.set_cons_zero, List.set_cons_succ, i64_w, i32_w]; rfl))
                refine pure_ (i := 15) (N := some 96) (v := undef) (a' := ?_) (tf 16 3) rfl rfl (any_of HT_.out (by kernel_rfl)) (fun _ _ _ h => h) (Or.inr ⟨by rfl, rfl⟩) ?_ ?_
                rotate_left; (· (simp only [Act.put, List.setIfInBounds_toArray, List.set_cons_zero, List.set_cons_succ, i64_w, i32_w]; rfl))
                refine pure_ (i := 16) (N := some 97) (v := undef) (a' := ?_) (tf 17 2) rfl rfl (any_of HT_.out (by kernel_rfl)) (fun _ _ _ h => h) (Or.inr ⟨by rfl, rfl⟩) ?_ ?_
                rotate_left; (· (simp only [Act.put, List.setIfInBounds_toArray, List.set_cons_zero, List.set_cons_succ, i64_w, i32_w]; rfl))
                refine pure_ (i := 17) (N := some 98) (v := undef) (a' := ?_) (tf 18 1) rfl rfl (any_of HT_.out (by kernel_rfl)) (fun _ _ _ h => h) (Or.inr ⟨by rfl, rfl⟩) ?_ ?_
                rotate_left; (· (simp only [Act.put, List.setIfInBounds_toArray, List.set_cons_zero, List.set_cons_succ, i64_w, i32_w]; rfl))
                refine pure_ (i := 18) (N := some 99) (v := ?_) (a' := ?_) (tf 19 0) rfl rfl (any_of HT_.out (by kernel_rfl)) (fun _ _ _ h => h) (Or.inl ⟨by rfl, ?_⟩) ?_ ?_
                rotate_left
                · intro w'
                  go_simp
                  with_reducible rfl
                rotate_left; (· (simp only [Act.put, List.setIfInBounds_toArray, List.set_cons_zero, List.set_cons_succ, i64_w, i32_w]; rfl))
                refine done_ (done_of HT_.out (by kernel_rfl)) ?_
                try go_wp2
                go_meet
                case rel => exact ⟨_, (true), (by first | rfl | (simp; done) | (simp [*]; done)), H', ⟨by have := HJ2.out; first | omega | exact Nat.le_refl _⟩, ⟨by (with_reducible repeat (first | refine blk_drewN ?_ _ | refine blk_drew ?_ | refine blk_alloc ?_ _)); exact BK243.out⟩, ⟨bl⟩⟩
            · rw [if_neg c35] at H
              exact absurd H (by simp)
          case rest =>
            clear HC34
            (try clear c1); (try clear p2); (try clear c3); (try clear p6); (try clear c7); (try clear c12); (try clear c33); (try clear c35); (try clear c35b0); (try clear c35b1); (try clear c38); (try clear hfz15_9); (try clear hfz16_0); (try clear hfz16_1); (try clear hfz16_10); (try clear hfz16_11); (try clear hfz16_12); (try clear hfz16_13); (try clear hfz16_14); (try clear hfz16_15); (try clear hfz16_16); (try clear hfz16_17); (try clear hfz16_18); (try clear hfz16_2); (try clear hfz16_3); (try clear hfz16_4); (try clear hfz16_5); (try clear hfz16_6); (try clear hfz16_7); (try clear hfz16_8); (try clear hfz16_9); (try clear hfz18_0); (try clear hfz18_1); (try clear hfz18_10); (try clear hfz18_11); (try clear hfz18_12); (try clear hfz18_13); (try clear hfz18_14); (try clear hfz18_15); (try clear hfz18_16); (try clear hfz18_17); (try clear hfz18_18); (try clear hfz18_2); (try clear hfz18_3); (try clear hfz18_4); (try clear hfz18_5); (try clear hfz18_6); (try clear hfz18_7); (try clear hfz18_8); (try clear hfz18_9); (try clear hfz21_0); (try clear hfz21_1); (try clear hfz21_10); (try clear hfz21_11); (try clear hfz21_12); (try clear hfz21_13); (try clear hfz21_14); (try clear hfz21_15); (try clear hfz21_16); (try clear hfz21_17); (try clear hfz21_18); (try clear hfz21_2); (try clear hfz21_3); (try clear hfz21_4); (try clear hfz21_5); (try clear hfz21_6); (try clear hfz21_7); (try clear hfz21_8); (try clear hfz21_9); (try clear hfz23_0); (try clear hfz23_1); (try clear hfz23_10); (try clear hfz23_11); (try clear hfz23_12); (try clear hfz23_13); (try clear hfz23_14); (try clear hfz23_15); (try clear hfz23_16); (try clear hfz23_17); (try clear hfz23_18); (try clear hfz23_2); (try clear hfz23_3); (try clear hfz23_4); (try clear hfz23_5); (try clear hfz23_6); (try clear hfz23_7); (try clear hfz23_8); (try clear hfz23_9); (try clear hfz25_0); (try clear hfz25_1); (try clear hfz25_10); (try clear hfz25_11); (try clear hfz25_12); (try clear hfz25_13); (try clear hfz25_14); (try clear hfz25_15); (try clear hfz25_16); (try clear hfz25_17); (try clear hfz25_18); (try clear hfz25_2); (try clear hfz25_3); (try clear hfz25_4); (try clear hfz25_5); (try clear hfz25_6); (try clear hfz25_7); (try clear hfz25_8); (try clear hfz25_9); (try clear hfz27_0); (try clear hfz27_1); (try clear hfz27_10); (try clear hfz27_11); (try clear hfz27_12); (try clear hfz27_13); (try clear hfz27_14); (try clear hfz27_15); (try clear hfz27_16); (try clear hfz27_17); (try clear hfz27_18); (try clear hfz27_2); (try clear hfz27_3); (try clear hfz27_4); (try clear hfz27_5); (try clear hfz27_6); (try clear hfz27_7); (try clear hfz27_8); (try clear hfz27_9); (try clear hfz28_0); (try clear hfz28_1); (try clear hfz28_10); (try clear hfz28_11); (try clear hfz28_12); (try clear hfz28_13); (try clear hfz28_14); (try clear hfz28_15); (try clear hfz28_16); (try clear hfz28_17); (try clear hfz28_18); (try clear hfz28_2); (try clear hfz28_3); (try clear hfz28_4); (try clear hfz28_5); (try clear hfz28_6); (try clear hfz28_7); (try clear hfz28_8); (try clear hfz28_9); (try clear hfz30_0); (try clear hfz30_1); (try clear hfz30_10); (try clear hfz30_11); (try clear hfz30_12); (try clear hfz30_13); (try clear hfz30_14); (try clear hfz30_15); (try clear hfz30_16); (try clear hfz30_17); (try clear hfz30_18); (try clear hfz30_2); (try clear hfz30_3); (try clear hfz30_4); (try clear hfz30_5); (try clear hfz30_6); (try clear hfz30_7); (try clear hfz30_8); (try clear hfz30_9); (try clear hfz31_0); (try clear hfz31_1); (try clear hfz31_10); (try clear hfz31_11); (try clear hfz31_12); (try clear hfz31_13); (try clear hfz31_14); (try clear hfz31_15); (try clear hfz31_16); (try clear hfz31_17); (try clear hfz31_18); (try clear hfz31_2); (try clear hfz31_3); (try clear hfz31_4); (try clear hfz31_5); (try clear hfz31_6); (try clear hfz31_7); (try clear hfz31_8); (try clear hfz31_9); (try clear hfz5_0); (try clear hfz5_1); (try clear hfz5_10); (try clear hfz5_11); (try clear hfz5_12); (try clear hfz5_13); (try clear hfz5_14); (try clear hfz5_15); (try clear hfz5_16); (try clear hfz5_17); (try clear hfz5_18); (try clear hfz5_2); (try clear hfz5_3); (try clear hfz5_4); (try clear hfz5_5); (try clear hfz5_6); (try clear hfz5_7); (try clear hfz5_8); (try clear hfz5_9)
            obtain ⟨kq, x99_33, rfl, HA, HJ33, BK243, HB⟩ := hcut
            cases kq with
            | zero => exact absurd HA.out (by simp [impl_DecOk.j1])
            | succ kj33 =>
              have H := HA.out
              clear HA
              simp only [impl_DecOk.j1] at H
              by_cases c44 : x99_33 = true
              · subst c44
                rw [if_pos rfl] at H
                obtain rfl := Option.some.inj H
                go_wp2
                go_ret
                exact ⟨rr, bl⟩
              · replace c44 := Bool.eq_false_iff.mpr c44
                subst c44
                have H1 : (if a0_12 > 0 then (if a0_11 = (-1) then (impl_DecOk.j2 kj33 true true a0_1 a0_2 a0_3 a0_4 l0_5 l0_6 a0_7 a0_8 a0_9 a0_10 a0_11 a0_12 a0_13 a0_14 a0_15 a0_16 a0_17 a0_18) else ((impl_fits.f kj33 a0_13 a0_14 a0_15 a0_3 a0_4 l0_5 l0_6).bind fun t250 => (if t250 = true then (if a0_12 = 0 then (impl_DecOk.j2 kj33 (!(a0_13 == 0) || (!(a0_14 == 0) || (!(a0_15.toList == ([] : List UInt8))))) true a0_1 a0_2 a0_3 a0_4 l0_5 l0_6 a0_7 a0_8 a0_9 a0_10 a0_11 a0_12 a0_13 a0_14 a0_15 a0_16 a0_17 a0_18) else (impl_DecOk.j2 kj33 false true a0_1 a0_2 a0_3 a0_4 l0_5 l0_6 a0_7 a0_8 a0_9 a0_10 a0_11 a0_12 a0_13 a0_14 a0_15 a0_16 a0_17 a0_18)) else (impl_DecOk.j2 kj33 true true a0_1 a0_2 a0_3 a0_4 l0_5 l0_6 a0_7 a0_8 a0_9 a0_10 a0_11 a0_12 a0_13 a0_14 a0_15 a0_16 a0_17 a0_18)))) else (if a0_12 = 0 then (impl_DecOk.j2 kj33 (!(a0_13 == 0) || (!(a0_14 == 0) || (!(a0_15.toList == ([] : List UInt8))))) true a0_1 a0_2 a0_3 a0_4 l0_5 l0_6 a0_7 a0_8 a0_9 a0_10 a0_11 a0_12 a0_13 a0_14 a0_15 a0_16 a0_17 a0_18) else (impl_DecOk.j2 kj33 false true a0_1 a0_2 a0_3 a0_4 l0_5 l0_6 a0_7 a0_8 a0_9 a0_10 a0_11 a0_12 a0_13 a0_14 a0_15 a0_16 a0_17 a0_18))) = some r := by rw [if_neg (show ¬ (false = true) by decide)] at H; exact H
                clear H
                have H := H1
                clear H1
                have HC45 := Aside0.mk H
                clear H
                go_upto_region 7 with (fail)
                go_cut [126] (fun v126 wc => ∃ (kq : Nat) (x126_44 : Bool), v126 = .bool x126_44 ∧ Aside0 (impl_DecOk.j2 kq x126_44 true a0_1 a0_2 a0_3 a0_4 l0_5 l0_6 a0_7 a0_8 a0_9 a0_10 a0_11 a0_12 a0_13 a0_14 a0_15 a0_16 a0_17 a0_18 = some r) ∧ Aside0 (kq ≤ kj33) ∧ Aside0 (wc.heap[gb243]? = some (.cells #[.bool true, .bool a0_1, .bool a0_2, .int .i64 a0_3, .int .i64 a0_4, (.slice A0_5 l0_5.length c0_5), (.slice A0_6 l0_6.length c0_6), .int .i64 a0_7, .bool a0_8, .bool a0_9, .bool a0_10, .int .i64 a0_11, .int .i64 a0_12, .int .i64 a0_13, .int .i64 a0_14, .string a0_15, .int .i64 a0_16, .int .i64 a0_17, .string a0_18] 41 (0, 0))) ∧ Aside0 (Below w.heap.size w wc))
                case first =>
                  have H := HC45.out
                  clear HC45
                  by_cases c46 : a0_12 > 0
                  · rw [if_pos c46] at H
                    have c46b0 : decide (0 < a0_12) = true := decide_eq_true c46
                    clear c46
                    (first | rw [c46b0] | (simp only [i64_w, i32_w]; rw [c46b0]) | skip)
                    by_cases c47 : a0_11 = (-1)
                    · rw [if_pos c47] at H
                      have c47b0 : (a0_11 == (-1)) = true := beq_iff_eq.mpr c47
                      have c47b1 : (a0_11 != (-1)) = false := bne_eq_false_iff_eq.mpr c47
                      clear c47
                      have H' := Aside0.mk H
                      clear H
                      have hcz48_0 : ∀ i, wc.cell? ⟨gb243, i, none⟩ = _ := blk_cell BK243.out
                      have hcz48_1 : wc.cell? ⟨gb243, 1, none⟩ = some (.bool a0_1) := (blk_cell BK243.out 1).trans rfl
                      have hcz48_2 : wc.cell? ⟨gb243, 2, none⟩ = some (.bool a0_2) := (blk_cell BK243.out 2).trans rfl
                      have hcz48_3 : wc.cell? ⟨gb243, 3, none⟩ = some (.int .i64 a0_3) := (blk_cell BK243.out 3).trans rfl
                      have hcz48_4 : wc.cell? ⟨gb243, 4, none⟩ = some (.int .i64 a0_4) := (blk_cell BK243.out 4).trans rfl
                      have hcz48_5 : wc.cell? ⟨gb243, 5, none⟩ = some (.slice A0_5 l0_5.length c0_5) := (blk_cell BK243.out 5).trans rfl
                      have hcz48_6 : wc.cell? ⟨gb243, 6, none⟩ = some (.slice A0_6 l0_6.length c0_6) := (blk_cell BK243.out 6).trans rfl
                      have hcz48_7 : wc.cell? ⟨gb243, 7, none⟩ = some (.int .i64 a0_7) := (blk_cell BK243.out 7).trans rfl
                      have hcz48_8 : wc.cell? ⟨gb243, 8, none⟩ = some (.bool a0_8) := (blk_cell BK243.out 8).trans rfl
                      have hcz48_9 : wc.cell? ⟨gb243, 9, none⟩ = some (.bool a0_9) := (blk_cell BK243.out 9).trans rfl
                      have hcz48_10 : wc.cell? ⟨gb243, 10, none⟩ = some (.bool a0_10) := (blk_cell BK243.out 10).trans rfl
                      have hcz48_11 : wc.cell? ⟨gb243, 11, none⟩ = some (.int .i64 a0_11) := (blk_cell BK243.out 11).trans rfl
                      have hcz48_12 : wc.cell? ⟨gb243, 12, none⟩ = some (.int .i64 a0_12) := (blk_cell BK243.out 12).trans rfl
                      have hcz48_13 : wc.cell? ⟨gb243, 13, none⟩ = some (.int .i64 a0_13) := (blk_cell BK243.out 13).trans rfl
                      have hcz48_14 : wc.cell? ⟨gb243, 14, none⟩ = some (.int .i64 a0_14) := (blk_cell BK243.out 14).trans rfl
                      have hcz48_15 : wc.cell? ⟨gb243, 15, none⟩ = some (.string a0_15) := (blk_cell BK243.out 15).trans rfl
                      have hcz48_16 : wc.cell? ⟨gb243, 16, none⟩ = some (.int .i64 a0_16) := (blk_cell BK243.out 16).trans rfl
                      have hcz48_17 : wc.cell? ⟨gb243, 17, none⟩ = some (.int .i64 a0_17) := (blk_cell BK243.out 17).trans rfl
                      have hcz48_18 : wc.cell? ⟨gb243, 18, none⟩ = some (.string a0_18) := (blk_cell BK243.out 18).trans rfl
                      have hfz48_0 := blk_frozen BK243.out
                      have hfz48_1 := blk_frozen BK243.out 1
                      have hfz48_2 := blk_frozen BK243.out 2
                      have hfz48_3 := blk_frozen BK243.out 3
                      have hfz48_4 := blk_frozen BK243.out 4
                      have hfz48_5 := blk_frozen BK243.out 5
                      have hfz48_6 := blk_frozen BK243.out 6
                      have hfz48_7 := blk_frozen BK243.out 7
                      have hfz48_8 := blk_frozen BK243.out 8
                      have hfz48_9 := blk_frozen BK243.out 9
                      have hfz48_10 := blk_frozen BK243.out 10
                      have hfz48_11 := blk_frozen BK243.out 11
                      have hfz48_12 := blk_frozen BK243.out 12
                      have hfz48_13 := blk_frozen BK243.out 13
                      have hfz48_14 := blk_frozen BK243.out 14
                      have hfz48_15 := blk_frozen BK243.out 15
                      have hfz48_16 := blk_frozen BK243.out 16
                      have hfz48_17 := blk_frozen BK243.out 17
                      have hfz48_18 := blk_frozen BK243.out 18
                      go_wp2
                      go_meet
                      case rel => exact ⟨_, (true), (by first | rfl | (simp; done) | (simp [*]; done)), H', ⟨by have := HJ2.out; have := HJ33.out; first | omega | exact Nat.le_refl _⟩, ⟨by (with_reducible repeat (first | refine blk_drewN ?_ _ | refine blk_drew ?_ | refine blk_alloc ?_ _)); exact BK243.out⟩, ⟨bl⟩⟩
                    · rw [if_neg c47] at H
                      have c47b0 : (a0_11 == (-1)) = false := beq_eq_false_iff_ne.mpr c47
                      have c47b1 : (a0_11 != (-1)) = true := bne_iff_ne.mpr c47
                      replace H := Option.bind_eq_some_iff.mp H
                      obtain ⟨t250, A490, H⟩ := H
                      (try dsimp only at H)
                      have A49 := Aside0.mk A490
                      clear A490
                      by_cases c50 : t250 = true
                      · subst c50
                        rw [if_pos rfl] at H
                        by_cases c51 : a0_12 = 0
                        · rw [if_pos c51] at H
                          have c51b0 : (a0_12 == 0) = true := beq_iff_eq.mpr c51
                          have c51b1 : (a0_12 != 0) = false := bne_eq_false_iff_eq.mpr c51
                          clear c51
                          have H' := Aside0.mk H
                          clear H
                          have hcz52_0 : ∀ i, wc.cell? ⟨gb243, i, none⟩ = _ := blk_cell BK243.out
                          have hcz52_1 : wc.cell? ⟨gb243, 1, none⟩ = some (.bool a0_1) := (blk_cell BK243.out 1).trans rfl
                          have hcz52_2 : wc.cell? ⟨gb243, 2, none⟩ = some (.bool a0_2) := (blk_cell BK243.out 2).trans rfl
                          have hcz52_3 : wc.cell? ⟨gb243, 3, none⟩ = some (.int .i64 a0_3) := (blk_cell BK243.out 3).trans rfl
                          have hcz52_4 : wc.cell? ⟨gb243, 4, none⟩ = some (.int .i64 a0_4) := (blk_cell BK243.out 4).trans rfl
                          have hcz52_5 : wc.cell? ⟨gb243, 5, none⟩ = some (.slice A0_5 l0_5.length c0_5) := (blk_cell BK243.out 5).trans rfl
                          have hcz52_6 : wc.cell? ⟨gb243, 6, none⟩ = some (.slice A0_6 l0_6.length c0_6) := (blk_cell BK243.out 6).trans rfl
                          have hcz52_7 : wc.cell? ⟨gb243, 7, none⟩ = some (.int .i64 a0_7) := (blk_cell BK243.out 7).trans rfl
                          have hcz52_8 : wc.cell? ⟨gb243, 8, none⟩ = some (.bool a0_8) := (blk_cell BK243.out 8).trans rfl
                          have hcz52_9 : wc.cell? ⟨gb243, 9, none⟩ = some (.bool a0_9) := (blk_cell BK243.out 9).trans rfl
                          have hcz52_10 : wc.cell? ⟨gb243, 10, none⟩ = some (.bool a0_10) := (blk_cell BK243.out 10).trans rfl
                          have hcz52_11 : wc.cell? ⟨gb243, 11, none⟩ = some (.int .i64 a0_11) := (blk_cell BK243.out 11).trans rfl
                          have hcz52_12 : wc.cell? ⟨gb243, 12, none⟩ = some (.int .i64 a0_12) := (blk_cell BK243.out 12).trans rfl
                          have hcz52_13 : wc.cell? ⟨gb243, 13, none⟩ = some (.int .i64 a0_13) := (blk_cell BK243.out 13).trans rfl
                          have hcz52_14 : wc.cell? ⟨gb243, 14, none⟩ = some (.int .i64 a0_14) := (blk_cell BK243.out 14).trans rfl
                          have hcz52_15 : wc.cell? ⟨gb243, 15, none⟩ = some (.string a0_15) := (blk_cell BK243.out 15).trans rfl
                          have hcz52_16 : wc.cell? ⟨gb243, 16, none⟩ = some (.int .i64 a0_16) := (blk_cell BK243.out 16).trans rfl
                          have hcz52_17 : wc.cell? ⟨gb243, 17, none⟩ = some (.int .i64 a0_17) := (blk_cell BK243.out 17).trans rfl
                          have hcz52_18 : wc.cell? ⟨gb243, 18, none⟩ = some (.string a0_18) := (blk_cell BK243.out 18).trans rfl
                          have hfz52_0 := blk_frozen BK243.out
                          have hfz52_1 := blk_frozen BK243.out 1
                          have hfz52_2 := blk_frozen BK243.out 2
                          have hfz52_3 := blk_frozen BK243.out 3
                          have hfz52_4 := blk_frozen BK243.out 4
                          have hfz52_5 := blk_frozen BK243.out 5
                          have hfz52_6 := blk_frozen BK243.out 6
                          have hfz52_7 := blk_frozen BK243.out 7
                          have hfz52_8 := blk_frozen BK243.out 8
                          have hfz52_9 := blk_frozen BK243.out 9
                          have hfz52_10 := blk_frozen BK243.out 10
                          have hfz52_11 := blk_frozen BK243.out 11
                          have hfz52_12 := blk_frozen BK243.out 12
                          have hfz52_13 := blk_frozen BK243.out 13
                          have hfz52_14 := blk_frozen BK243.out 14
                          have hfz52_15 := blk_frozen BK243.out 15
                          have hfz52_16 := blk_frozen BK243.out 16
                          have hfz52_17 := blk_frozen BK243.out 17
                          have hfz52_18 := blk_frozen BK243.out 18
                          go_wp2_with (first | ((with_reducible refine gate_load (t := 41) rfl ?_); refine load_all (g := gb243) (ty := 41) rfl rfl rfl (bx BK243.out) (by kernel_rfl) (by kernel_rfl) ?_; simp only [Act.put, List.setIfInBounds_toArray, List.set_cons_zero, List.set_cons_succ]) | (go_at_call 121; (with_reducible refine (impl_fits.calls kj33 a0_13 a0_14 a0_15 a0_3 a0_4 _ _ l0_5 _ _ l0_6 true _ ?side1 ?side2 ?side3 ?side4 A49.out).mono ?_); (case side1 => repeat (first | exact (Kd.C_below HR0_5.out HB.out) | (with_reducible refine Kd.C_alloc ?_ _) | (with_reducible refine Kd.C_drewN ?_ _) | (with_reducible refine Kd.C_drew ?_))); (case side2 => exact HC0_5.out); (case side3 => repeat (first | exact (Kd.C_below HR0_6.out HB.out) | (with_reducible refine Kd.C_alloc ?_ _) | (with_reducible refine Kd.C_drewN ?_ _) | (with_reducible refine Kd.C_drew ?_))); (case side4 => exact HC0_6.out); rintro e w53 ⟨rfl, hb⟩; have n0_ := Aside0.mk (blk_below (bx BK243.out) hb); have n1_ := bs HB hb; clear BK243; clear HB; have BK243 := n0_; have HB := n1_; clear n0_ n1_; (try clear hb); (try clear hb2); (try clear hk); (try clear hi); have hcz54_0 : ∀ i, w53.cell? ⟨gb243, i, none⟩ = _ := blk_cell BK243.out; have hfz54_0 := blk_frozen BK243.out))
                          go_meet
                          case rel => exact ⟨_, ((!(a0_13 == 0) || (!(a0_14 == 0) || (!(a0_15.toList == ([] : List UInt8)))))), (by first | rfl | (simp; done) | (simp [*]; done)), H', ⟨by have := HJ2.out; have := HJ33.out; first | omega | exact Nat.le_refl _⟩, ⟨by (with_reducible repeat (first | refine blk_drewN ?_ _ | refine blk_drew ?_ | refine blk_alloc ?_ _)); exact BK243.out⟩, ⟨bl⟩⟩
                        · rw [if_neg c51] at H
                          have c51b0 : (a0_12 == 0) = false := beq_eq_false_iff_ne.mpr c51
                          have c51b1 : (a0_12 != 0) = true := bne_iff_ne.mpr c51
                          have H' := Aside0.mk H
                          clear H
                          have hcz55_0 : ∀ i, wc.cell? ⟨gb243, i, none⟩ = _ := blk_cell BK243.out
                          have hcz55_1 : wc.cell? ⟨gb243, 1, none⟩ = some (.bool a0_1) := (blk_cell BK243.out 1).trans rfl
                          have hcz55_2 : wc.cell? ⟨gb243, 2, none⟩ = some (.bool a0_2) := (blk_cell BK243.out 2).trans rfl
                          have hcz55_3 : wc.cell? ⟨gb243, 3, none⟩ = some (.int .i64 a0_3) := (blk_cell BK243.out 3).trans rfl
                          have hcz55_4 : wc.cell? ⟨gb243, 4, none⟩ = some (.int .i64 a0_4) := (blk_cell BK243.out 4).trans rfl
                          have hcz55_5 : wc.cell? ⟨gb243, 5, none⟩ = some (.slice A0_5 l0_5.length c0_5) := (blk_cell BK243.out 5).trans rfl
                          have hcz55_6 : wc.cell? ⟨gb243, 6, none⟩ = some (.slice A0_6 l0_6.length c0_6) := (blk_cell BK243.out 6).trans rfl
                          have hcz55_7 : wc.cell? ⟨gb243, 7, none⟩ = some (.int .i64 a0_7) := (blk_cell BK243.out 7).trans rfl
                          have hcz55_8 : wc.cell? ⟨gb243, 8, none⟩ = some (.bool a0_8) := (blk_cell BK243.out 8).trans rfl
                          have hcz55_9 : wc.cell? ⟨gb243, 9, none⟩ = some (.bool a0_9) := (blk_cell BK243.out 9).trans rfl
                          have hcz55_10 : wc.cell? ⟨gb243, 10, none⟩ = some (.bool a0_10) := (blk_cell BK243.out 10).trans rfl
                          have hcz55_11 : wc.cell? ⟨gb243, 11, none⟩ = some (.int .i64 a0_11) := (blk_cell BK243.out 11).trans rfl
                          have hcz55_12 : wc.cell? ⟨gb243, 12, none⟩ = some (.int .i64 a0_12) := (blk_cell BK243.out 12).trans rfl
                          have hcz55_13 : wc.cell? ⟨gb243, 13, none⟩ = some (.int .i64 a0_13) := (blk_cell BK243.out 13).trans rfl
                          have hcz55_14 : wc.cell? ⟨gb243, 14, none⟩ = some (.int .i64 a0_14) := (blk_cell BK243.out 14).trans rfl
                          have hcz55_15 : wc.cell? ⟨gb243, 15, none⟩ = some (.string a0_15) := (blk_cell BK243.out 15).trans rfl
                          have hcz55_16 : wc.cell? ⟨gb243, 16, none⟩ = some (.int .i64 a0_16) := (blk_cell BK243.out 16).trans rfl
                          have hcz55_17 : wc.cell? ⟨gb243, 17, none⟩ = some (.int .i64 a0_17) := (blk_cell BK243.out 17).trans rfl
                          have hcz55_18 : wc.cell? ⟨gb243, 18, none⟩ = some (.string a0_18) := (blk_cell BK243.out 18).trans rfl
                          have hfz55_0 := blk_frozen BK243.out
                          have hfz55_1 := blk_frozen BK243.out 1
                          have hfz55_2 := blk_frozen BK243.out 2
                          have hfz55_3 := blk_frozen BK243.out 3
                          have hfz55_4 := blk_frozen BK243.out 4
                          have hfz55_5 := blk_frozen BK243.out 5
                          have hfz55_6 := blk_frozen BK243.out 6
                          have hfz55_7 := blk_frozen BK243.out 7
                          have hfz55_8 := blk_frozen BK243.out 8
                          have hfz55_9 := blk_frozen BK243.out 9
                          have hfz55_10 := blk_frozen BK243.out 10
                          have hfz55_11 := blk_frozen BK243.out 11
                          have hfz55_12 := blk_frozen BK243.out 12
                          have hfz55_13 := blk_frozen BK243.out 13
                          have hfz55_14 := blk_frozen BK243.out 14
                          have hfz55_15 := blk_frozen BK243.out 15
                          have hfz55_16 := blk_frozen BK243.out 16
                          have hfz55_17 := blk_frozen BK243.out 17
                          have hfz55_18 := blk_frozen BK243.out 18
                          go_wp2_with (first | ((with_reducible refine gate_load (t := 41) rfl ?_); refine load_all (g := gb243) (ty := 41) rfl rfl rfl (bx BK243.out) (by kernel_rfl) (by kernel_rfl) ?_; simp only [Act.put, List.setIfInBounds_toArray, List.set_cons_zero, List.set_cons_succ]) | (go_at_call 121; (with_reducible refine (impl_fits.calls kj33 a0_13 a0_14 a0_15 a0_3 a0_4 _ _ l0_5 _ _ l0_6 true _ ?side1 ?side2 ?side3 ?side4 A49.out).mono ?_); (case side1 => repeat (first | exact (Kd.C_below HR0_5.out HB.out) | (with_reducible refine Kd.C_alloc ?_ _) | (with_reducible refine Kd.C_drewN ?_ _) | (with_reducible refine Kd.C_drew ?_))); (case side2 => exact HC0_5.out); (case side3 => repeat (first | exact (Kd.C_below HR0_6.out HB.out) | (with_reducible refine Kd.C_alloc ?_ _) | (with_reducible refine Kd.C_drewN ?_ _) | (with_reducible refine Kd.C_drew ?_))); (case side4 => exact HC0_6.out); rintro e w56 ⟨rfl, hb⟩; have n0_ := Aside0.mk (blk_below (bx BK243.out) hb); have n1_ := bs HB hb; clear BK243; clear HB; have BK243 := n0_; have HB := n1_; clear n0_ n1_; (try clear hb); (try clear hb2); (try clear hk); (try clear hi); have hcz57_0 : ∀ i, w56.cell? ⟨gb243, i, none⟩ = _ := blk_cell BK243.out; have hfz57_0 := blk_frozen BK243.out))
                          go_meet
                          case rel => exact ⟨_, (false), (by first | rfl | (simp; done) | (simp [*]; done)), H', ⟨by have := HJ2.out; have := HJ33.out; first | omega | exact Nat.le_refl _⟩, ⟨by (with_reducible repeat (first | refine blk_drewN ?_ _ | refine blk_drew ?_ | refine blk_alloc ?_ _)); exact BK243.out⟩, ⟨bl⟩⟩
                      · replace c50 := Bool.eq_false_iff.mpr c50
                        subst c50
                        have H1 : (impl_DecOk.j2 kj33 true true a0_1 a0_2 a0_3 a0_4 l0_5 l0_6 a0_7 a0_8 a0_9 a0_10 a0_11 a0_12 a0_13 a0_14 a0_15 a0_16 a0_17 a0_18) = some r := by rw [if_neg (show ¬ (false = true) by decide)] at H; exact H
                        clear H
                        have H := H1
                        clear H1
                        have H' := Aside0.mk H
                        clear H
                        have hcz58_0 : ∀ i, wc.cell? ⟨gb243, i, none⟩ = _ := blk_cell BK243.out
                        have hcz58_1 : wc.cell? ⟨gb243, 1, none⟩ = some (.bool a0_1) := (blk_cell BK243.out 1).trans rfl
                        have hcz58_2 : wc.cell? ⟨gb243, 2, none⟩ = some (.bool a0_2) := (blk_cell BK243.out 2).trans rfl
                        have hcz58_3 : wc.cell? ⟨gb243, 3, none⟩ = some (.int .i64 a0_3) := (blk_cell BK243.out 3).trans rfl
                        have hcz58_4 : wc.cell? ⟨gb243, 4, none⟩ = some (.int .i64 a0_4) := (blk_cell BK243.out 4).trans rfl
                        have hcz58_5 : wc.cell? ⟨gb243, 5, none⟩ = some (.slice A0_5 l0_5.length c0_5) := (blk_cell BK243.out 5).trans rfl
                        have hcz58_6 : wc.cell? ⟨gb243, 6, none⟩ = some (.slice A0_6 l0_6.length c0_6) := (blk_cell BK243.out 6).trans rfl
                        have hcz58_7 : wc.cell? ⟨gb243, 7, none⟩ = some (.int .i64 a0_7) := (blk_cell BK243.out 7).trans rfl
                        have hcz58_8 : wc.cell? ⟨gb243, 8, none⟩ = some (.bool a0_8) := (blk_cell BK243.out 8).trans rfl
                        have hcz58_9 : wc.cell? ⟨gb243, 9, none⟩ = some (.bool a0_9) := (blk_cell BK243.out 9).trans rfl
                        have hcz58_10 : wc.cell? ⟨gb243, 10, none⟩ = some (.bool a0_10) := (blk_cell BK243.out 10).trans rfl
                        have hcz58_11 : wc.cell? ⟨gb243, 11, none⟩ = some (.int .i64 a0_11) := (blk_cell BK243.out 11).trans rfl
                        have hcz58_12 : wc.cell? ⟨gb243, 12, none⟩ = some (.int .i64 a0_12) := (blk_cell BK243.out 12).trans rfl
                        have hcz58_13 : wc.cell? ⟨gb243, 13, none⟩ = some (.int .i64 a0_13) := (blk_cell BK243.out 13).trans rfl
                        have hcz58_14 : wc.cell? ⟨gb243, 14, none⟩ = some (.int .i64 a0_14) := (blk_cell BK243.out 14).trans rfl
                        have hcz58_15 : wc.cell? ⟨gb243, 15, none⟩ = some (.string a0_15) := (blk_cell BK243.out 15).trans rfl
                        have hcz58_16 : wc.cell? ⟨gb243, 16, none⟩ = some (.int .i64 a0_16) := (blk_cell BK243.out 16).trans rfl
                        have hcz58_17 : wc.cell? ⟨gb243, 17, none⟩ = some (.int .i64 a0_17) := (blk_cell BK243.out 17).trans rfl
                        have hcz58_18 : wc.cell? ⟨gb243, 18, none⟩ = some (.string a0_18) := (blk_cell BK243.out 18).trans rfl
                        have hfz58_0 := blk_frozen BK243.out
                        have hfz58_1 := blk_frozen BK243.out 1
                        have hfz58_2 := blk_frozen BK243.out 2
                        have hfz58_3 := blk_frozen BK243.out 3
                        have hfz58_4 := blk_frozen BK243.out 4
                        have hfz58_5 := blk_frozen BK243.out 5
                        have hfz58_6 := blk_frozen BK243.out 6
                        have hfz58_7 := blk_frozen BK243.out 7
                        have hfz58_8 := blk_frozen BK243.out 8
                        have hfz58_9 := blk_frozen BK243.out 9
                        have hfz58_10 := blk_frozen BK243.out 10
                        have hfz58_11 := blk_frozen BK243.out 11
                        have hfz58_12 := blk_frozen BK243.out 12
                        have hfz58_13 := blk_frozen BK243.out 13
                        have hfz58_14 := blk_frozen BK243.out 14
                        have hfz58_15 := blk_frozen BK243.out 15
                        have hfz58_16 := blk_frozen BK243.out 16
                        have hfz58_17 := blk_frozen BK243.out 17
                        have hfz58_18 := blk_frozen BK243.out 18
                        go_wp2_with (first | ((with_reducible refine gate_load (t := 41) rfl ?_); refine load_all (g := gb243) (ty := 41) rfl rfl rfl (bx BK243.out) (by kernel_rfl) (by kernel_rfl) ?_; simp only [Act.put, List.setIfInBounds_toArray, List.set_cons_zero, List.set_cons_succ]) | (go_at_call 121; (with_reducible refine (impl_fits.calls kj33 a0_13 a0_14 a0_15 a0_3 a0_4 _ _ l0_5 _ _ l0_6 false _ ?side1 ?side2 ?side3 ?side4 A49.out).mono ?_); (case side1 => repeat (first | exact (Kd.C_below HR0_5.out HB.out) | (with_reducible refine Kd.C_alloc ?_ _) | (with_reducible refine Kd.C_drewN ?_ _) | (with_reducible refine Kd.C_drew ?_))); (case side2 => exact HC0_5.out); (case side3 => repeat (first | exact (Kd.C_below HR0_6.out HB.out) | (with_reducible refine Kd.C_alloc ?_ _) | (with_reducible refine Kd.C_drewN ?_ _) | (with_reducible refine Kd.C_drew ?_))); (case side4 => exact HC0_6.out); rintro e w59 ⟨rfl, hb⟩; have n0_ := Aside0.mk (blk_below (bx BK243.out) hb); have n1_ := bs HB hb; clear BK243; clear HB; have BK243 := n0_; have HB := n1_; clear n0_ n1_; (try clear hb); (try clear hb2); (try clear hk); (try clear hi)))
                        go_meet
                        case rel => exact ⟨_, (true), (by first | rfl | (simp; done) | (simp [*]; done)), H', ⟨by have := HJ2.out; have := HJ33.out; first | omega | exact Nat.le_refl _⟩, ⟨by (with_reducible repeat (first | refine blk_drewN ?_ _ | refine blk_drew ?_ | refine blk_alloc ?_ _)); exact BK243.out⟩, ⟨bl⟩⟩
                  · rw [if_neg c46] at H
                    have c46b0 : decide (0 < a0_12) = false := decide_eq_false c46
                    clear c46
                    (first | rw [c46b0] | (simp only [i64_w, i32_w]; rw [c46b0]) | skip)
                    by_cases c60 : a0_12 = 0
                    · rw [if_pos c60] at H
                      have c60b0 : (a0_12 == 0) = true := beq_iff_eq.mpr c60
                      have c60b1 : (a0_12 != 0) = false := bne_eq_false_iff_eq.mpr c60
                      clear c60
                      have H' := Aside0.mk H
                      clear H
                      have hcz61_0 : ∀ i, wc.cell? ⟨gb243, i, none⟩ = _ := blk_cell BK243.out
                      have hcz61_1 : wc.cell? ⟨gb243, 1, none⟩ = some (.bool a0_1) := (blk_cell BK243.out 1).trans rfl
                      have hcz61_2 : wc.cell? ⟨gb243, 2, none⟩ = some (.bool a0_2) := (blk_cell BK243.out 2).trans rfl
                      have hcz61_3 : wc.cell? ⟨gb243, 3, none⟩ = some (.int .i64 a0_3) := (blk_cell BK243.out 3).trans rfl
                      have hcz61_4 : wc.cell? ⟨gb243, 4, none⟩ = some (.int .i64 a0_4) := (blk_cell BK243.out 4).trans rfl
                      have hcz61_5 : wc.cell? ⟨gb243, 5, none⟩ = some (.slice A0_5 l0_5.length c0_5) := (blk_cell BK243.out 5).trans rfl
                      have hcz61_6 : wc.cell? ⟨gb243, 6, none⟩ = some (.slice A0_6 l0_6.length c0_6) := (blk_cell BK243.out 6).trans rfl
                      have hcz61_7 : wc.cell? ⟨gb243, 7, none⟩ = some (.int .i64 a0_7) := (blk_cell BK243.out 7).trans rfl
                      have hcz61_8 : wc.cell? ⟨gb243, 8, none⟩ = some (.bool a0_8) := (blk_cell BK243.out 8).trans rfl
                      have hcz61_9 : wc.cell? ⟨gb243, 9, none⟩ = some (.bool a0_9) := (blk_cell BK243.out 9).trans rfl
                      have hcz61_10 : wc.cell? ⟨gb243, 10, none⟩ = some (.bool a0_10) := (blk_cell BK243.out 10).trans rfl
                      have hcz61_11 : wc.cell? ⟨gb243, 11, none⟩ = some (.int .i64 a0_11) := (blk_cell BK243.out 11).trans rfl
                      have hcz61_12 : wc.cell? ⟨gb243, 12, none⟩ = some (.int .i64 a0_12) := (blk_cell BK243.out 12).trans rfl
                      have hcz61_13 : wc.cell? ⟨gb243, 13, none⟩ = some (.int .i64 a0_13) := (blk_cell BK243.out 13).trans rfl
                      have hcz61_14 : wc.cell? ⟨gb243, 14, none⟩ = some (.int .i64 a0_14) := (blk_cell BK243.out 14).trans rfl
                      have hcz61_15 : wc.cell? ⟨gb243, 15, none⟩ = some (.string a0_15) := (blk_cell BK243.out 15).trans rfl
                      have hcz61_16 : wc.cell? ⟨gb243, 16, none⟩ = some (.int .i64 a0_16) := (blk_cell BK243.out 16).trans rfl
                      have hcz61_17 : wc.cell? ⟨gb243, 17, none⟩ = some (.int .i64 a0_17) := (blk_cell BK243.out 17).trans rfl
                      have hcz61_18 : wc.cell? ⟨gb243, 18, none⟩ = some (.string a0_18) := (blk_cell BK243.out 18).trans rfl
                      have hfz61_0 := blk_frozen BK243.out
                      have hfz61_1 := blk_frozen BK243.out 1
                      have hfz61_2 := blk_frozen BK243.out 2
                      have hfz61_3 := blk_frozen BK243.out 3
                      have hfz61_4 := blk_frozen BK243.out 4
                      have hfz61_5 := blk_frozen BK243.out 5
                      have hfz61_6 := blk_frozen BK243.out 6
                      have hfz61_7 := blk_frozen BK243.out 7
                      have hfz61_8 := blk_frozen BK243.out 8
                      have hfz61_9 := blk_frozen BK243.out 9
                      have hfz61_10 := blk_frozen BK243.out 10
                      have hfz61_11 := blk_frozen BK243.out 11
                      have hfz61_12 := blk_frozen BK243.out 12
                      have hfz61_13 := blk_frozen BK243.out 13
                      have hfz61_14 := blk_frozen BK243.out 14
                      have hfz61_15 := blk_frozen BK243.out 15
                      have hfz61_16 := blk_frozen BK243.out 16
                      have hfz61_17 := blk_frozen BK243.out 17
                      have hfz61_18 := blk_frozen BK243.out 18
                      go_wp2
                      go_meet
                      case rel => exact ⟨_, ((!(a0_13 == 0) || (!(a0_14 == 0) || (!(a0_15.toList == ([] : List UInt8)))))), (by first | rfl | (simp; done) | (simp [*]; done)), H', ⟨by have := HJ2.out; have := HJ33.out; first | omega | exact Nat.le_refl _⟩, ⟨by (with_reducible repeat (first | refine blk_drewN ?_ _ | refine blk_drew ?_ | refine blk_alloc ?_ _)); exact BK243.out⟩, ⟨bl⟩⟩
                    · rw [if_neg c60] at H
                      have c60b0 : (a0_12 == 0) = false := beq_eq_false_iff_ne.mpr c60
                      have c60b1 : (a0_12 != 0) = true := bne_iff_ne.mpr c60
                      have H' := Aside0.mk H
                      clear H
                      have hcz62_0 : ∀ i, wc.cell? ⟨gb243, i, none⟩ = _ := blk_cell BK243.out
                      have hcz62_1 : wc.cell? ⟨gb243, 1, none⟩ = some (.bool a0_1) := (blk_cell BK243.out 1).trans rfl
                      have hcz62_2 : wc.cell? ⟨gb243, 2, none⟩ = some (.bool a0_2) := (blk_cell BK243.out 2).trans rfl
                      have hcz62_3 : wc.cell? ⟨gb243, 3, none⟩ = some (.int .i64 a0_3) := (blk_cell BK243.out 3).trans rfl
                      have hcz62_4 : wc.cell? ⟨gb243, 4, none⟩ = some (.int .i64 a0_4) := (blk_cell BK243.out 4).trans rfl
                      have hcz62_5 : wc.cell? ⟨gb243, 5, none⟩ = some (.slice A0_5 l0_5.length c0_5) := (blk_cell BK243.out 5).trans rfl
                      have hcz62_6 : wc.cell? ⟨gb243, 6, none⟩ = some (.slice A0_6 l0_6.length c0_6) := (blk_cell BK243.out 6).trans rfl
                      have hcz62_7 : wc.cell? ⟨gb243, 7, none⟩ = some (.int .i64 a0_7) := (blk_cell BK243.out 7).trans rfl
                      have hcz62_8 : wc.cell? ⟨gb243, 8, none⟩ = some (.bool a0_8) := (blk_cell BK243.out 8).trans rfl
                      have hcz62_9 : wc.cell? ⟨gb243, 9, none⟩ = some (.bool a0_9) := (blk_cell BK243.out 9).trans rfl
                      have hcz62_10 : wc.cell? ⟨gb243, 10, none⟩ = some (.bool a0_10) := (blk_cell BK243.out 10).trans rfl
                      have hcz62_11 : wc.cell? ⟨gb243, 11, none⟩ = some (.int .i64 a0_11) := (blk_cell BK243.out 11).trans rfl
                      have hcz62_12 : wc.cell? ⟨gb243, 12, none⟩ = some (.int .i64 a0_12) := (blk_cell BK243.out 12).trans rfl
                      have hcz62_13 : wc.cell? ⟨gb243, 13, none⟩ = some (.int .i64 a0_13) := (blk_cell BK243.out 13).trans rfl
                      have hcz62_14 : wc.cell? ⟨gb243, 14, none⟩ = some (.int .i64 a0_14) := (blk_cell BK243.out 14).trans rfl
                      have hcz62_15 : wc.cell? ⟨gb243, 15, none⟩ = some (.string a0_15) := (blk_cell BK243.out 15).trans rfl
                      have hcz62_16 : wc.cell? ⟨gb243, 16, none⟩ = some (.int .i64 a0_16) := (blk_cell BK243.out 16).trans rfl
                      have hcz62_17 : wc.cell? ⟨gb243, 17, none⟩ = some (.int .i64 a0_17) := (blk_cell BK243.out 17).trans rfl
                      have hcz62_18 : wc.cell? ⟨gb243, 18, none⟩ = some (.string a0_18) := (blk_cell BK243.out 18).trans rfl
                      have hfz62_0 := blk_frozen BK243.out
                      have hfz62_1 := blk_frozen BK243.out 1
                      have hfz62_2 := blk_frozen BK243.out 2
                      have hfz62_3 := blk_frozen BK243.out 3
                      have hfz62_4 := blk_frozen BK243.out 4
                      have hfz62_5 := blk_frozen BK243.out 5
                      have hfz62_6 := blk_frozen BK243.out 6
                      have hfz62_7 := blk_frozen BK243.out 7
                      have hfz62_8 := blk_frozen BK243.out 8
                      have hfz62_9 := blk_frozen BK243.out 9
                      have hfz62_10 := blk_frozen BK243.out 10
                      have hfz62_11 := blk_frozen BK243.out 11
                      have hfz62_12 := blk_frozen BK243.out 12
                      have hfz62_13 := blk_frozen BK243.out 13
                      have hfz62_14 := blk_frozen BK243.out 14
                      have hfz62_15 := blk_frozen BK243.out 15
                      have hfz62_16 := blk_frozen BK243.out 16
                      have hfz62_17 := blk_frozen BK243.out 17
                      have hfz62_18 := blk_frozen BK243.out 18
                      go_wp2
                      go_meet
                      case rel => exact ⟨_, (false), (by first | rfl | (simp; done) | (simp [*]; done)), H', ⟨by have := HJ2.out; have := HJ33.out; first | omega | exact Nat.le_refl _⟩, ⟨by (with_reducible repeat (first | refine blk_drewN ?_ _ | refine blk_drew ?_ | refine blk_alloc ?_ _)); exact BK243.out⟩, ⟨bl⟩⟩
                case rest =>
                  clear HC45
                  (try clear c1); (try clear p2); (try clear c3); (try clear c4); (try clear c5); (try clear c6); (try clear p6); (try clear c7); (try clear c12); (try clear c33); (try clear c35); (try clear c35b0); (try clear c35b1); (try clear c38); (try clear c44); (try clear c46); (try clear c46b0); (try clear c47); (try clear c47b0); (try clear c47b1); (try clear c50); (try clear c51); (try clear c51b0); (try clear c51b1); (try clear c60); (try clear c60b0); (try clear c60b1); (try clear hcz48_0); (try clear hcz48_1); (try clear hcz48_10); (try clear hcz48_11); (try clear hcz48_12); (try clear hcz48_13); (try clear hcz48_14); (try clear hcz48_15); (try clear hcz48_16); (try clear hcz48_17); (try clear hcz48_18); (try clear hcz48_2); (try clear hcz48_3); (try clear hcz48_4); (try clear hcz48_5); (try clear hcz48_6); (try clear hcz48_7); (try clear hcz48_8); (try clear hcz48_9); (try clear hcz52_0); (try clear hcz52_1); (try clear hcz52_10); (try clear hcz52_11); (try clear hcz52_12); (try clear hcz52_13); (try clear hcz52_14); (try clear hcz52_15); (try clear hcz52_16); (try clear hcz52_17); (try clear hcz52_18); (try clear hcz52_2); (try clear hcz52_3); (try clear hcz52_4); (try clear hcz52_5); (try clear hcz52_6); (try clear hcz52_7); (try clear hcz52_8); (try clear hcz52_9); (try clear hcz54_0); (try clear hcz54_1); (try clear hcz54_10); (try clear hcz54_11); (try clear hcz54_12); (try clear hcz54_13); (try clear hcz54_14); (try clear hcz54_15); (try clear hcz54_16); (try clear hcz54_17); (try clear hcz54_18); (try clear hcz54_2); (try clear hcz54_3); (try clear hcz54_4); (try clear hcz54_5); (try clear hcz54_6); (try clear hcz54_7); (try clear hcz54_8); (try clear hcz54_9); (try clear hcz55_0); (try clear hcz55_1); (try clear hcz55_10); (try clear hcz55_11); (try clear hcz55_12); (try clear hcz55_13); (try clear hcz55_14); (try clear hcz55_15); (try clear hcz55_16); (try clear hcz55_17); (try clear hcz55_18); (try clear hcz55_2); (try clear hcz55_3); (try clear hcz55_4); (try clear hcz55_5); (try clear hcz55_6); (try clear hcz55_7); (try clear hcz55_8); (try clear hcz55_9); (try clear hcz57_0); (try clear hcz57_1); (try clear hcz57_10); (try clear hcz57_11); (try clear hcz57_12); (try clear hcz57_13); (try clear hcz57_14); (try clear hcz57_15); (try clear hcz57_16); (try clear hcz57_17); (try clear hcz57_18); (try clear hcz57_2); (try clear hcz57_3); (try clear hcz57_4); (try clear hcz57_5); (try clear hcz57_6); (try clear hcz57_7); (try clear hcz57_8); (try clear hcz57_9); (try clear hcz58_0); (try clear hcz58_1); (try clear hcz58_10); (try clear hcz58_11); (try clear hcz58_12); (try clear hcz58_13); (try clear hcz58_14); (try clear hcz58_15); (try clear hcz58_16); (try clear hcz58_17); (try clear hcz58_18); (try clear hcz58_2); (try clear hcz58_3); (try clear hcz58_4); (try clear hcz58_5); (try clear hcz58_6); (try clear hcz58_7); (try clear hcz58_8); (try clear hcz58_9); (try clear hcz61_0); (try clear hcz61_1); (try clear hcz61_10); (try clear hcz61_11); (try clear hcz61_12); (try clear hcz61_13); (try clear hcz61_14); (try clear hcz61_15); (try clear hcz61_16); (try clear hcz61_17); (try clear hcz61_18); (try clear hcz61_2); (try clear hcz61_3); (try clear hcz61_4); (try clear hcz61_5); (try clear hcz61_6); (try clear hcz61_7); (try clear hcz61_8); (try clear hcz61_9); (try clear hcz62_0); (try clear hcz62_1); (try clear hcz62_10); (try clear hcz62_11); (try clear hcz62_12); (try clear hcz62_13); (try clear hcz62_14); (try clear hcz62_15); (try clear hcz62_16); (try clear hcz62_17); (try clear hcz62_18); (try clear hcz62_2); (try clear hcz62_3); (try clear hcz62_4); (try clear hcz62_5); (try clear hcz62_6); (try clear hcz62_7); (try clear hcz62_8); (try clear hcz62_9); (try clear hfz15_9); (try clear hfz16_0); (try clear hfz16_1); (try clear hfz16_10); (try clear hfz16_11); (try clear hfz16_12); (try clear hfz16_13); (try clear hfz16_14); (try clear hfz16_15); (try clear hfz16_16); (try clear hfz16_17); (try clear hfz16_18); (try clear hfz16_2); (try clear hfz16_3); (try clear hfz16_4); (try clear hfz16_5); (try clear hfz16_6); (try clear hfz16_7); (try clear hfz16_8); (try clear hfz16_9); (try clear hfz18_0); (try clear hfz18_1); (try clear hfz18_10); (try clear hfz18_11); (try clear hfz18_12); (try clear hfz18_13); (try clear hfz18_14); (try clear hfz18_15); (try clear hfz18_16); (try clear hfz18_17); (try clear hfz18_18); (try clear hfz18_2); (try clear hfz18_3); (try clear hfz18_4); (try clear hfz18_5); (try clear hfz18_6); (try clear hfz18_7); (try clear hfz18_8); (try clear hfz18_9); (try clear hfz21_0); (try clear hfz21_1); (try clear hfz21_10); (try clear hfz21_11); (try clear hfz21_12); (try clear hfz21_13); (try clear hfz21_14); (try clear hfz21_15); (try clear hfz21_16); (try clear hfz21_17); (try clear hfz21_18); (try clear hfz21_2); (try clear hfz21_3); (try clear hfz21_4); (try clear hfz21_5); (try clear hfz21_6); (try clear hfz21_7); (try clear hfz21_8); (try clear hfz21_9); (try clear hfz23_0); (try clear hfz23_1); (try clear hfz23_10); (try clear hfz23_11); (try clear hfz23_12); (try clear hfz23_13); (try clear hfz23_14); (try clear hfz23_15); (try clear hfz23_16); (try clear hfz23_17); (try clear hfz23_18); (try clear hfz23_2); (try clear hfz23_3); (try clear hfz23_4); (try clear hfz23_5); (try clear hfz23_6); (try clear hfz23_7); (try clear hfz23_8); (try clear hfz23_9); (try clear hfz25_0); (try clear hfz25_1); (try clear hfz25_10); (try clear hfz25_11); (try clear hfz25_12); (try clear hfz25_13); (try clear hfz25_14); (try clear hfz25_15); (try clear hfz25_16); (try clear hfz25_17); (try clear hfz25_18); (try clear hfz25_2); (try clear hfz25_3); (try clear hfz25_4); (try clear hfz25_5); (try clear hfz25_6); (try clear hfz25_7); (try clear hfz25_8); (try clear hfz25_9); (try clear hfz27_0); (try clear hfz27_1); (try clear hfz27_10); (try clear hfz27_11); (try clear hfz27_12); (try clear hfz27_13); (try clear hfz27_14); (try clear hfz27_15); (try clear hfz27_16); (try clear hfz27_17); (try clear hfz27_18); (try clear hfz27_2); (try clear hfz27_3); (try clear hfz27_4); (try clear hfz27_5); (try clear hfz27_6); (try clear hfz27_7); (try clear hfz27_8); (try clear hfz27_9); (try clear hfz28_0); (try clear hfz28_1); (try clear hfz28_10); (try clear hfz28_11); (try clear hfz28_12); (try clear hfz28_13); (try clear hfz28_14); (try clear hfz28_15); (try clear hfz28_16); (try clear hfz28_17); (try clear hfz28_18); (try clear hfz28_2); (try clear hfz28_3); (try clear hfz28_4); (try clear hfz28_5); (try clear hfz28_6); (try clear hfz28_7); (try clear hfz28_8); (try clear hfz28_9); (try clear hfz30_0); (try clear hfz30_1); (try clear hfz30_10); (try clear hfz30_11); (try clear hfz30_12); (try clear hfz30_13); (try clear hfz30_14); (try clear hfz30_15); (try clear hfz30_16); (try clear hfz30_17); (try clear hfz30_18); (try clear hfz30_2); (try clear hfz30_3); (try clear hfz30_4); (try clear hfz30_5); (try clear hfz30_6); (try clear hfz30_7); (try clear hfz30_8); (try clear hfz30_9); (try clear hfz31_0); (try clear hfz31_1); (try clear hfz31_10); (try clear hfz31_11); (try clear hfz31_12); (try clear hfz31_13); (try clear hfz31_14); (try clear hfz31_15); (try clear hfz31_16); (try clear hfz31_17); (try clear hfz31_18); (try clear hfz31_2); (try clear hfz31_3); (try clear hfz31_4); (try clear hfz31_5); (try clear hfz31_6); (try clear hfz31_7); (try clear hfz31_8); (try clear hfz31_9); (try clear hfz48_0); (try clear hfz48_1); (try clear hfz48_10); (try clear hfz48_11); (try clear hfz48_12); (try clear hfz48_13); (try clear hfz48_14); (try clear hfz48_15); (try clear hfz48_16); (try clear hfz48_17); (try clear hfz48_18); (try clear hfz48_2); (try clear hfz48_3); (try clear hfz48_4); (try clear hfz48_5); (try clear hfz48_6); (try clear hfz48_7); (try clear hfz48_8); (try clear hfz48_9); (try clear hfz52_0); (try clear hfz52_1); (try clear hfz52_10); (try clear hfz52_11); (try clear hfz52_12); (try clear hfz52_13); (try clear hfz52_14); (try clear hfz52_15); (try clear hfz52_16); (try clear hfz52_17); (try clear hfz52_18); (try clear hfz52_2); (try clear hfz52_3); (try clear hfz52_4); (try clear hfz52_5); (try clear hfz52_6); (try clear hfz52_7); (try clear hfz52_8); (try clear hfz52_9); (try clear hfz54_0); (try clear hfz54_1); (try clear hfz54_10); (try clear hfz54_11); (try clear hfz54_12); (try clear hfz54_13); (try clear hfz54_14); (try clear hfz54_15); (try clear hfz54_16); (try clear hfz54_17); (try clear hfz54_18); (try clear hfz54_2); (try clear hfz54_3); (try clear hfz54_4); (try clear hfz54_5); (try clear hfz54_6); (try clear hfz54_7); (try clear hfz54_8); (try clear hfz54_9); (try clear hfz55_0); (try clear hfz55_1); (try clear hfz55_10); (try clear hfz55_11); (try clear hfz55_12); (try clear hfz55_13); (try clear hfz55_14); (try clear hfz55_15); (try clear hfz55_16); (try clear hfz55_17); (try clear hfz55_18); (try clear hfz55_2); (try clear hfz55_3); (try clear hfz55_4); (try clear hfz55_5); (try clear hfz55_6); (try clear hfz55_7); (try clear hfz55_8); (try clear hfz55_9); (try clear hfz57_0); (try clear hfz57_1); (try clear hfz57_10); (try clear hfz57_11); (try clear hfz57_12); (try clear hfz57_13); (try clear hfz57_14); (try clear hfz57_15); (try clear hfz57_16); (try clear hfz57_17); (try clear hfz57_18); (try clear hfz57_2); (try clear hfz57_3); (try clear hfz57_4); (try clear hfz57_5); (try clear hfz57_6); (try clear hfz57_7); (try clear hfz57_8); (try clear hfz57_9); (try clear hfz58_0); (try clear hfz58_1); (try clear hfz58_10); (try clear hfz58_11); (try clear hfz58_12); (try clear hfz58_13); (try clear hfz58_14); (try clear hfz58_15); (try clear hfz58_16); (try clear hfz58_17); (try clear hfz58_18); (try clear hfz58_2); (try clear hfz58_3); (try clear hfz58_4); (try clear hfz58_5); (try clear hfz58_6); (try clear hfz58_7); (try clear hfz58_8); (try clear hfz58_9); (try clear hfz5_0); (try clear hfz5_1); (try clear hfz5_10); (try clear hfz5_11); (try clear hfz5_12); (try clear hfz5_13); (try clear hfz5_14); (try clear hfz5_15); (try clear hfz5_16); (try clear hfz5_17); (try clear hfz5_18); (try clear hfz5_2); (try clear hfz5_3); (try clear hfz5_4); (try clear hfz5_5); (try clear hfz5_6); (try clear hfz5_7); (try clear hfz5_8); (try clear hfz5_9); (try clear hfz61_0); (try clear hfz61_1); (try clear hfz61_10); (try clear hfz61_11); (try clear hfz61_12); (try clear hfz61_13); (try clear hfz61_14); (try clear hfz61_15); (try clear hfz61_16); (try clear hfz61_17); (try clear hfz61_18); (try clear hfz61_2); (try clear hfz61_3); (try clear hfz61_4); (try clear hfz61_5); (try clear hfz61_6); (try clear hfz61_7); (try clear hfz61_8); (try clear hfz61_9); (try clear hfz62_0); (try clear hfz62_1); (try clear hfz62_10); (try clear hfz62_11); (try clear hfz62_12); (try clear hfz62_13); (try clear hfz62_14); (try clear hfz62_15); (try clear hfz62_16); (try clear hfz62_17); (try clear hfz62_18); (try clear hfz62_2); (try clear hfz62_3); (try clear hfz62_4); (try clear hfz62_5); (try clear hfz62_6); (try clear hfz62_7); (try clear hfz62_8); (try clear hfz62_9); (try clear p2); (try clear p6)
                  obtain ⟨kq, x126_44, rfl, HA, HJ44, BK243, HB⟩ := hcut
                  cases kq with
                  | zero => exact absurd HA.out (by simp [impl_DecOk.j2])
                  | succ kj44 =>
                    have H := HA.out
                    clear HA
                    simp only [impl_DecOk.j2] at H
                    by_cases c63 : x126_44 = true
                    · subst c63
                      rw [if_pos rfl] at H
                      obtain rfl := Option.some.inj H
                      go_wp2
                      go_ret
                      exact ⟨rr, bl⟩
                    · replace c63 := Bool.eq_false_iff.mpr c63
                      subst c63
                      have H1 : (if a0_2 = true then ((impl_fits.f kj44 a0_16 a0_17 a0_18 a0_3 a0_4 l0_5 l0_6).bind fun t251 => (some t251)) else (some (a0_16 == 0 && (a0_17 == 0 && (a0_18.toList == ([] : List UInt8)))))) = some r := by rw [if_neg (show ¬ (false = true) by decide)] at H; exact H
                      clear H
                      have H := H1
                      clear H1
                      by_cases c64 : a0_2 = true
                      · subst c64
                        rw [if_pos rfl] at H
                        replace H := Option.bind_eq_some_iff.mp H
                        obtain ⟨t251, A650, H⟩ := H
                        (try dsimp only at H)
                        have A65 := Aside0.mk A650
                        clear A650
                        obtain rfl := Option.some.inj H
                        have hcz66_0 : ∀ i, wc.cell? ⟨gb243, i, none⟩ = _ := blk_cell BK243.out
                        have hcz66_1 : wc.cell? ⟨gb243, 1, none⟩ = some (.bool a0_1) := (blk_cell BK243.out 1).trans rfl
                        have hcz66_2 : wc.cell? ⟨gb243, 2, none⟩ = some (.bool true) := (blk_cell BK243.out 2).trans rfl
                        have hcz66_3 : wc.cell? ⟨gb243, 3, none⟩ = some (.int .i64 a0_3) := (blk_cell BK243.out 3).trans rfl
                        have hcz66_4 : wc.cell? ⟨gb243, 4, none⟩ = some (.int .i64 a0_4) := (blk_cell BK243.out 4).trans rfl
                        have hcz66_5 : wc.cell? ⟨gb243, 5, none⟩ = some (.slice A0_5 l0_5.length c0_5) := (blk_cell BK243.out 5).trans rfl
                        have hcz66_6 : wc.cell? ⟨gb243, 6, none⟩ = some (.slice A0_6 l0_6.length c0_6) := (blk_cell BK243.out 6).trans rfl
                        have hcz66_7 : wc.cell? ⟨gb243, 7, none⟩ = some (.int .i64 a0_7) := (blk_cell BK243.out 7).trans rfl
                        have hcz66_8 : wc.cell? ⟨gb243, 8, none⟩ = some (.bool a0_8) := (blk_cell BK243.out 8).trans rfl
                        have hcz66_9 : wc.cell? ⟨gb243, 9, none⟩ = some (.bool a0_9) := (blk_cell BK243.out 9).trans rfl
                        have hcz66_10 : wc.cell? ⟨gb243, 10, none⟩ = some (.bool a0_10) := (blk_cell BK243.out 10).trans rfl
                        have hcz66_11 : wc.cell? ⟨gb243, 11, none⟩ = some (.int .i64 a0_11) := (blk_cell BK243.out 11).trans rfl
                        have hcz66_12 : wc.cell? ⟨gb243, 12, none⟩ = some (.int .i64 a0_12) := (blk_cell BK243.out 12).trans rfl
                        have hcz66_13 : wc.cell? ⟨gb243, 13, none⟩ = some (.int .i64 a0_13) := (blk_cell BK243.out 13).trans rfl
                        have hcz66_14 : wc.cell? ⟨gb243, 14, none⟩ = some (.int .i64 a0_14) := (blk_cell BK243.out 14).trans rfl
                        have hcz66_15 : wc.cell? ⟨gb243, 15, none⟩ = some (.string a0_15) := (blk_cell BK243.out 15).trans rfl
                        have hcz66_16 : wc.cell? ⟨gb243, 16, none⟩ = some (.int .i64 a0_16) := (blk_cell BK243.out 16).trans rfl
                        have hcz66_17 : wc.cell? ⟨gb243, 17, none⟩ = some (.int .i64 a0_17) := (blk_cell BK243.out 17).trans rfl
                        have hcz66_18 : wc.cell? ⟨gb243, 18, none⟩ = some (.string a0_18) := (blk_cell BK243.out 18).trans rfl
                        have hfz66_0 := blk_frozen BK243.out
                        have hfz66_1 := blk_frozen BK243.out 1
                        have hfz66_2 := blk_frozen BK243.out 2
                        have hfz66_3 := blk_frozen BK243.out 3
                        have hfz66_4 := blk_frozen BK243.out 4
                        have hfz66_5 := blk_frozen BK243.out 5
                        have hfz66_6 := blk_frozen BK243.out 6
                        have hfz66_7 := blk_frozen BK243.out 7
                        have hfz66_8 := blk_frozen BK243.out 8
                        have hfz66_9 := blk_frozen BK243.out 9
                        have hfz66_10 := blk_frozen BK243.out 10
                        have hfz66_11 := blk_frozen BK243.out 11
                        have hfz66_12 := blk_frozen BK243.out 12
                        have hfz66_13 := blk_frozen BK243.out 13
                        have hfz66_14 := blk_frozen BK243.out 14
                        have hfz66_15 := blk_frozen BK243.out 15
                        have hfz66_16 := blk_frozen BK243.out 16
                        have hfz66_17 := blk_frozen BK243.out 17
                        have hfz66_18 := blk_frozen BK243.out 18
                        go_wp2_with (first | ((with_reducible refine gate_load (t := 41) rfl ?_); refine load_all (g := gb243) (ty := 41) rfl rfl rfl (bx BK243.out) (by kernel_rfl) (by kernel_rfl) ?_; simp only [Act.put, List.setIfInBounds_toArray, List.set_cons_zero, List.set_cons_succ]) | ((with_reducible refine gate_callee (f := 121) rfl ?_); refine goesL_ (some 133) rfl rfl Try.func121 (by kernel_rfl) rfl #[.agg #[.int .i64 a0_16, .int .i64 a0_17, .string a0_18], .agg #[.int .i64 a0_3, .int .i64 a0_4, .slice A0_5 l0_5.length c0_5, .slice A0_6 l0_6.length c0_6]] rfl (by (try simp only [List.map_toArray, List.map_cons, List.map_nil]); first | done | rfl | (simp only [List.length_drop, List.length_take]; rfl)) ?_; (with_reducible refine (impl_fits.calls kj44 a0_16 a0_17 a0_18 a0_3 a0_4 _ _ l0_5 _ _ l0_6 t251 _ ?side1 ?side2 ?side3 ?side4 A65.out).mono ?_); (case side1 => repeat (first | exact (Kd.C_below HR0_5.out HB.out) | (with_reducible refine Kd.C_alloc ?_ _) | (with_reducible refine Kd.C_drewN ?_ _) | (with_reducible refine Kd.C_drew ?_))); (case side2 => exact HC0_5.out); (case side3 => repeat (first | exact (Kd.C_below HR0_6.out HB.out) | (with_reducible refine Kd.C_alloc ?_ _) | (with_reducible refine Kd.C_drewN ?_ _) | (with_reducible refine Kd.C_drew ?_))); (case side4 => exact HC0_6.out); rintro e w67 ⟨rfl, hb⟩; refine ⟨_, rfl, ?_⟩; have n0_ := Aside0.mk (blk_below (bx BK243.out) hb); have n1_ := bs HB hb; clear BK243; clear HB; have BK243 := n0_; have HB := n1_; clear n0_ n1_; (try clear hb); (try clear hb2); (try clear hk); (try clear hi)))
                        go_ret
                        exact ⟨rr, bl⟩
                      · replace c64 := Bool.eq_false_iff.mpr c64
                        subst c64
                        have H1 : (some (a0_16 == 0 && (a0_17 == 0 && (a0_18.toList == ([] : List UInt8))))) = some r := by rw [if_neg (show ¬ (false = true) by decide)] at H; exact H
                        clear H
                        have H := H1
                        clear H1
                        obtain rfl := Option.some.inj H
                        have hcz68_0 : ∀ i, wc.cell? ⟨gb243, i, none⟩ = _ := blk_cell BK243.out
                        have hcz68_1 : wc.cell? ⟨gb243, 1, none⟩ = some (.bool a0_1) := (blk_cell BK243.out 1).trans rfl
                        have hcz68_2 : wc.cell? ⟨gb243, 2, none⟩ = some (.bool false) := (blk_cell BK243.out 2).trans rfl
                        have hcz68_3 : wc.cell? ⟨gb243, 3, none⟩ = some (.int .i64 a0_3) := (blk_cell BK243.out 3).trans rfl
                        have hcz68_4 : wc.cell? ⟨gb243, 4, none⟩ = some (.int .i64 a0_4) := (blk_cell BK243.out 4).trans rfl
                        have hcz68_5 : wc.cell? ⟨gb243, 5, none⟩ = some (.slice A0_5 l0_5.length c0_5) := (blk_cell BK243.out 5).trans rfl
                        have hcz68_6 : wc.cell? ⟨gb243, 6, none⟩ = some (.slice A0_6 l0_6.length c0_6) := (blk_cell BK243.out 6).trans rfl
                        have hcz68_7 : wc.cell? ⟨gb243, 7, none⟩ = some (.int .i64 a0_7) := (blk_cell BK243.out 7).trans rfl
                        have hcz68_8 : wc.cell? ⟨gb243, 8, none⟩ = some (.bool a0_8) := (blk_cell BK243.out 8).trans rfl
                        have hcz68_9 : wc.cell? ⟨gb243, 9, none⟩ = some (.bool a0_9) := (blk_cell BK243.out 9).trans rfl
                        have hcz68_10 : wc.cell? ⟨gb243, 10, none⟩ = some (.bool a0_10) := (blk_cell BK243.out 10).trans rfl
                        have hcz68_11 : wc.cell? ⟨gb243, 11, none⟩ = some (.int .i64 a0_11) := (blk_cell BK243.out 11).trans rfl
                        have hcz68_12 : wc.cell? ⟨gb243, 12, none⟩ = some (.int .i64 a0_12) := (blk_cell BK243.out 12).trans rfl
                        have hcz68_13 : wc.cell? ⟨gb243, 13, none⟩ = some (.int .i64 a0_13) := (blk_cell BK243.out 13).trans rfl
                        have hcz68_14 : wc.cell? ⟨gb243, 14, none⟩ = some (.int .i64 a0_14) := (blk_cell BK243.out 14).trans rfl
                        have hcz68_15 : wc.cell? ⟨gb243, 15, none⟩ = some (.string a0_15) := (blk_cell BK243.out 15).trans rfl
                        have hcz68_16 : wc.cell? ⟨gb243, 16, none⟩ = some (.int .i64 a0_16) := (blk_cell BK243.out 16).trans rfl
                        have hcz68_17 : wc.cell? ⟨gb243, 17, none⟩ = some (.int .i64 a0_17) := (blk_cell BK243.out 17).trans rfl
                        have hcz68_18 : wc.cell? ⟨gb243, 18, none⟩ = some (.string a0_18) := (blk_cell BK243.out 18).trans rfl
                        have hfz68_0 := blk_frozen BK243.out
                        have hfz68_1 := blk_frozen BK243.out 1
                        have hfz68_2 := blk_frozen BK243.out 2
                        have hfz68_3 := blk_frozen BK243.out 3
                        have hfz68_4 := blk_frozen BK243.out 4
                        have hfz68_5 := blk_frozen BK243.out 5
                        have hfz68_6 := blk_frozen BK243.out 6
                        have hfz68_7 := blk_frozen BK243.out 7
                        have hfz68_8 := blk_frozen BK243.out 8
                        have hfz68_9 := blk_frozen BK243.out 9
                        have hfz68_10 := blk_frozen BK243.out 10
                        have hfz68_11 := blk_frozen BK243.out 11
                        have hfz68_12 := blk_frozen BK243.out 12
                        have hfz68_13 := blk_frozen BK243.out 13
                        have hfz68_14 := blk_frozen BK243.out 14
                        have hfz68_15 := blk_frozen BK243.out 15
                        have hfz68_16 := blk_frozen BK243.out 16
                        have hfz68_17 := blk_frozen BK243.out 17
                        have hfz68_18 := blk_frozen BK243.out 18
                        go_wp2
                        go_ret
                        exact ⟨rr, bl⟩
  · replace c2 := Bool.eq_false_iff.mpr c2
    subst c2
    have H1 : (if a0_1 = true then (some false) else (if a0_2 = true then (some false) else ((impl_isNoSeq.f a0_3 a0_4 l0_5 l0_6).bind fun t244 => (if t244 = true then (if (a0_7 == 0 && (!a0_8 && (!a0_9 && (!a0_10)))) = true then (if a0_11 = (-1) then (if a0_12 = 0 then (if (a0_13 == 0 && (a0_14 == 0 && (a0_15.toList == ([] : List UInt8)))) = true then (some (a0_16 == 0 && (a0_17 == 0 && (a0_18.toList == ([] : List UInt8))))) else (some false)) else (some false)) else (some false)) else (some false)) else (some false))))) = some r := by rw [if_neg (show ¬ (false = true) by decide)] at H; exact H
    clear H
    have H := H1
    clear H1
    by_cases c69 : a0_1 = true
    · subst c69
      rw [if_pos rfl] at H
      obtain rfl := Option.some.inj H
      go_enter Try.func51, Try.ntmps51
      go_wp2_with (first | ((with_reducible refine gate_load (t := 41) rfl ?_); refine load_all (g := gb243) (ty := 41) rfl rfl rfl (bx BK243.out) (by kernel_rfl) (by kernel_rfl) ?_; simp only [Act.put, List.setIfInBounds_toArray, List.set_cons_zero, List.set_cons_succ]) | ((with_reducible refine gate_dst (N := 1) rfl ?_); refine box_event ?hg (N := 1) ?hd (cs := #[.bool false, .bool true, .bool a0_2, .int .i64 a0_3, .int .i64 a0_4, .slice A0_5 l0_5.length c0_5, .slice A0_6 l0_6.length c0_6, .int .i64 a0_7, .bool a0_8, .bool a0_9, .bool a0_10, .int .i64 a0_11, .int .i64 a0_12, .int .i64 a0_13, .int .i64 a0_14, .string a0_15, .int .i64 a0_16, .int .i64 a0_17, .string a0_18]) (t := 41) ?hr ?_; (case hd => rfl); (case hg => rfl); (case hr => first | (go_simp; done) | (go_simp; rfl)); intro gb243 hg w70 hbox hb; have n0_ := bs HB hb; have n1_ := Aside0.mk (hbox); have n2_ := bz hg; have n3_ := bz hg; clear HB; have HB := n0_; have BK243 := n1_; have GW243 := n2_; have GE243 := n3_; clear n0_ n1_ n2_ n3_; clear hb hbox hg; have hcz71_0 : ∀ i, w70.cell? ⟨gb243, i, none⟩ = _ := blk_cell BK243.out; have hfz71_0 := blk_frozen BK243.out))
      go_ret
      exact ⟨rr, bl⟩
    · replace c69 := Bool.eq_false_iff.mpr c69
      subst c69
      have H1 : (if a0_2 = true then (some false) else ((impl_isNoSeq.f a0_3 a0_4 l0_5 l0_6).bind fun t244 => (if t244 = true then (if (a0_7 == 0 && (!a0_8 && (!a0_9 && (!a0_10)))) = true then (if a0_11 = (-1) then (if a0_12 = 0 then (if (a0_13 == 0 && (a0_14 == 0 && (a0_15.toList == ([] : List UInt8)))) = true then (some (a0_16 == 0 && (a0_17 == 0 && (a0_18.toList == ([] : List UInt8))))) else (some false)) else (some false)) else (some false)) else (some false)) else (some false)))) = some r := by rw [if_neg (show ¬ (false = true) by decide)] at H; exact H
      clear H
      have H := H1
      clear H1
      by_cases c72 : a0_2 = true
      · subst c72
        rw [if_pos rfl] at H
        obtain rfl := Option.some.inj H
        go_enter Try.func51, Try.ntmps51
        go_wp2_with (first | ((with_reducible refine gate_load (t := 41) rfl ?_); refine load_all (g := gb243) (ty := 41) rfl rfl rfl (bx BK243.out) (by kernel_rfl) (by kernel_rfl) ?_; simp only [Act.put, List.setIfInBounds_toArray, List.set_cons_zero, List.set_cons_succ]) | ((with_reducible refine gate_dst (N := 1) rfl ?_); refine box_event ?hg (N := 1) ?hd (cs := #[.bool false, .bool false, .bool true, .int .i64 a0_3, .int .i64 a0_4, .slice A0_5 l0_5.length c0_5, .slice A0_6 l0_6.length c0_6, .int .i64 a0_7, .bool a0_8, .bool a0_9, .bool a0_10, .int .i64 a0_11, .int .i64 a0_12, .int .i64 a0_13, .int .i64 a0_14, .string a0_15, .int .i64 a0_16, .int .i64 a0_17, .string a0_18]) (t := 41) ?hr ?_; (case hd => rfl); (case hg => rfl); (case hr => first | (go_simp; done) | (go_simp; rfl)); intro gb243 hg w73 hbox hb; have n0_ := bs HB hb; have n1_ := Aside0.mk (hbox); have n2_ := bz hg; have n3_ := bz hg; clear HB; have HB := n0_; have BK243 := n1_; have GW243 := n2_; have GE243 := n3_; clear n0_ n1_ n2_ n3_; clear hb hbox hg; have hcz74_0 : ∀ i, w73.cell? ⟨gb243, i, none⟩ = _ := blk_cell BK243.out; have hfz74_0 := blk_frozen BK243.out))
        go_ret
        exact ⟨rr, bl⟩
      · replace c72 := Bool.eq_false_iff.mpr c72
        subst c72
        have H1 : ((impl_isNoSeq.f a0_3 a0_4 l0_5 l0_6).bind fun t244 => (if t244 = true then (if (a0_7 == 0 && (!a0_8 && (!a0_9 && (!a0_10)))) = true then (if a0_11 = (-1) then (if a0_12 = 0 then (if (a0_13 == 0 && (a0_14 == 0 && (a0_15.toList == ([] : List UInt8)))) = true then (some (a0_16 == 0 && (a0_17 == 0 && (a0_18.toList == ([] : List UInt8))))) else (some false)) else (some false)) else (some false)) else (some false)) else (some false))) = some r := by rw [if_neg (show ¬ (false = true) by decide)] at H; exact H
        clear H
        have H := H1
        clear H1
        replace H := Option.bind_eq_some_iff.mp H
        obtain ⟨t244, A750, H⟩ := H
        (try dsimp only at H)
        have A75 := Aside0.mk A750
        clear A750
        by_cases c76 : t244 = true
        · subst c76
          rw [if_pos rfl] at H
          by_cases c77 : (a0_7 == 0 && (!a0_8 && (!a0_9 && (!a0_10)))) = true
          · rw [if_pos c77] at H
            have c77b0 : (a0_7 == 0 && (!a0_8 && (!a0_9 && (!a0_10)))) = true := c77
            (try (have c77b1 : decide (a0_7 = 0 && (!a0_8 && (!a0_9 && (!a0_10)))) = true := by simpa using c77))
            (try (have c77b2 : (a0_7 == 0 && (!a0_8 && (!a0_9 && (!a0_10)))) = true := by simpa using c77))
            clear c77
            by_cases c78 : a0_11 = (-1)
            · rw [if_pos c78] at H
              have c78b0 : (a0_11 == (-1)) = true := beq_iff_eq.mpr c78
              have c78b1 : (a0_11 != (-1)) = false := bne_eq_false_iff_eq.mpr c78
              clear c78
              by_cases c79 : a0_12 = 0
              · rw [if_pos c79] at H
                have c79b0 : (a0_12 == 0) = true := beq_iff_eq.mpr c79
                have c79b1 : (a0_12 != 0) = false := bne_eq_false_iff_eq.mpr c79
                clear c79
                by_cases c80 : (a0_13 == 0 && (a0_14 == 0 && (a0_15.toList == ([] : List UInt8)))) = true
                · rw [if_pos c80] at H
                  have c80b0 : (a0_13 == 0 && (a0_14 == 0 && (a0_15.toList == ([] : List UInt8)))) = true := c80
                  have c80b0e : (a0_13 == 0 && (a0_14 == 0 && a0_15.toList.isEmpty)) = true := by simp only [show ∀ l : List UInt8, l.isEmpty = (l == []) from fun l => by cases l <;> rfl]; exact c80b0
                  (try (have c80b1 : decide (a0_13 = 0 && (a0_14 == 0 && (a0_15.toList == ([] : List UInt8)))) = true := by simpa using c80))
                  (try (have c80b2 : (a0_13 == 0 && (a0_14 == 0 && (a0_15.toList == ([] : List UInt8)))) = true := by simpa using c80))
                  clear c80
                  obtain rfl := Option.some.inj H
                  go_enter Try.func51, Try.ntmps51
                  go_wp2_with (first | ((with_reducible refine gate_load (t := 41) rfl ?_); refine load_all (g := gb243) (ty := 41) rfl rfl rfl (bx BK243.out) (by kernel_rfl) (by kernel_rfl) ?_; simp only [Act.put, List.setIfInBounds_toArray, List.set_cons_zero, List.set_cons_succ]) | ((with_reducible refine gate_dst (N := 1) rfl ?_); refine box_event ?hg (N := 1) ?hd (cs := #[.bool false, .bool false, .bool false, .int .i64 a0_3, .int .i64 a0_4, .slice A0_5 l0_5.length c0_5, .slice A0_6 l0_6.length c0_6, .int .i64 a0_7, .bool a0_8, .bool a0_9, .bool a0_10, .int .i64 a0_11, .int .i64 a0_12, .int .i64 a0_13, .int .i64 a0_14, .string a0_15, .int .i64 a0_16, .int .i64 a0_17, .string a0_18]) (t := 41) ?hr ?_; (case hd => rfl); (case hg => rfl); (case hr => first | (go_simp; done) | (go_simp; rfl)); intro gb243 hg w81 hbox hb; have n0_ := bs HB hb; have n1_ := Aside0.mk (hbox); have n2_ := bz hg; have n3_ := bz hg; clear HB; have HB := n0_; have BK243 := n1_; have GW243 := n2_; have GE243 := n3_; clear n0_ n1_ n2_ n3_; clear hb hbox hg; have hcz82_0 : ∀ i, w81.cell? ⟨gb243, i, none⟩ = _ := blk_cell BK243.out; have hfz82_0 := blk_frozen BK243.out) | (go_at_call 117; (with_reducible refine (impl_isNoSeq.calls a0_3 a0_4 _ _ l0_5 _ _ l0_6 true _ ?side1 ?side2 ?side3 ?side4 A75.out).mono ?_); (case side1 => repeat (first | exact (Kd.C_below HR0_5.out HB.out) | (with_reducible refine Kd.C_alloc ?_ _) | (with_reducible refine Kd.C_drewN ?_ _) | (with_reducible refine Kd.C_drew ?_))); (case side2 => exact HC0_5.out); (case side3 => repeat (first | exact (Kd.C_below HR0_6.out HB.out) | (with_reducible refine Kd.C_alloc ?_ _) | (with_reducible refine Kd.C_drewN ?_ _) | (with_reducible refine Kd.C_drew ?_))); (case side4 => exact HC0_6.out); rintro e w83 ⟨rfl, hb⟩; have n0_ := Aside0.mk (blk_below (bx BK243.out) hb); have n1_ := bs HB hb; clear BK243; clear HB; have BK243 := n0_; have HB := n1_; clear n0_ n1_; (try clear hb); (try clear hb2); (try clear hk); (try clear hi); have hcz84_0 : ∀ i, w83.cell? ⟨gb243, i, none⟩ = _ := blk_cell BK243.out; have hfz84_0 := blk_frozen BK243.out))
                  go_ret
                  exact ⟨rr, bl⟩
                · rw [if_neg c80] at H
                  have c80b0 : (a0_13 == 0 && (a0_14 == 0 && (a0_15.toList == ([] : List UInt8)))) = false := by simpa using c80
                  have c80b0e : (a0_13 == 0 && (a0_14 == 0 && a0_15.toList.isEmpty)) = false := by simp only [show ∀ l : List UInt8, l.isEmpty = (l == []) from fun l => by cases l <;> rfl]; exact c80b0
                  (try (have c80b1 : decide (a0_13 = 0 && (a0_14 == 0 && (a0_15.toList == ([] : List UInt8)))) = false := by simpa using c80))
                  (try (have c80b2 : (a0_13 == 0 && (a0_14 == 0 && (a0_15.toList == ([] : List UInt8)))) = false := by simpa using c80))
                  (try (have c80b3 : ¬ (a0_13 = 0 && (a0_14 == 0 && (a0_15.toList == ([] : List UInt8)))) := by simpa using c80))
                  clear c80
                  obtain rfl := Option.some.inj H
                  go_enter Try.func51, Try.ntmps51
                  go_wp2_with (first | ((with_reducible refine gate_load (t := 41) rfl ?_); refine load_all (g := gb243) (ty := 41) rfl rfl rfl (bx BK243.out) (by kernel_rfl) (by kernel_rfl) ?_; simp only [Act.put, List.setIfInBounds_toArray, List.set_cons_zero, List.set_cons_succ]) | ((with_reducible refine gate_dst (N := 1) rfl ?_); refine box_event ?hg (N := 1) ?hd (cs := #[.bool false, .bool false, .bool false, .int .i64 a0_3, .int .i64 a0_4, .slice A0_5 l0_5.length c0_5, .slice A0_6 l0_6.length c0_6, .int .i64 a0_7, .bool a0_8, .bool a0_9, .bool a0_10, .int .i64 a0_11, .int .i64 a0_12, .int .i64 a0_13, .int .i64 a0_14, .string a0_15, .int .i64 a0_16, .int .i64 a0_17, .string a0_18]) (t := 41) ?hr ?_; (case hd => rfl); (case hg => rfl); (case hr => first | (go_simp; done) | (go_simp; rfl)); intro gb243 hg w85 hbox hb; have n0_ := bs HB hb; have n1_ := Aside0.mk (hbox); have n2_ := bz hg; have n3_ := bz hg; clear HB; have HB := n0_; have BK243 := n1_; have GW243 := n2_; have GE243 := n3_; clear n0_ n1_ n2_ n3_; clear hb hbox hg; have hcz86_0 : ∀ i, w85.cell? ⟨gb243, i, none⟩ = _ := blk_cell BK243.out; have hfz86_0 := blk_frozen BK243.out) | (go_at_call 117; (with_reducible refine (impl_isNoSeq.calls a0_3 a0_4 _ _ l0_5 _ _ l0_6 true _ ?side1 ?side2 ?side3 ?side4 A75.out).mono ?_); (case side1 => repeat (first | exact (Kd.C_below HR0_5.out HB.out) | (with_reducible refine Kd.C_alloc ?_ _) | (with_reducible refine Kd.C_drewN ?_ _) | (with_reducible refine Kd.C_drew ?_))); (case side2 => exact HC0_5.out); (case side3 => repeat (first | exact (Kd.C_below HR0_6.out HB.out) | (with_reducible refine Kd.C_alloc ?_ _) | (with_reducible refine Kd.C_drewN ?_ _) | (with_reducible refine Kd.C_drew ?_))); (case side4 => exact HC0_6.out); rintro e w87 ⟨rfl, hb⟩; have n0_ := Aside0.mk (blk_below (bx BK243.out) hb); have n1_ := bs HB hb; clear BK243; clear HB; have BK243 := n0_; have HB := n1_; clear n0_ n1_; (try clear hb); (try clear hb2); (try clear hk); (try clear hi); have hcz88_0 : ∀ i, w87.cell? ⟨gb243, i, none⟩ = _ := blk_cell BK243.out; have hfz88_0 := blk_frozen BK243.out))
                  go_ret
                  exact ⟨rr, bl⟩
              · rw [if_neg c79] at H
                have c79b0 : (a0_12 == 0) = false := beq_eq_false_iff_ne.mpr c79
                have c79b1 : (a0_12 != 0) = true := bne_iff_ne.mpr c79
                obtain rfl := Option.some.inj H
                go_enter Try.func51, Try.ntmps51
                go_wp2_with (first | ((with_reducible refine gate_load (t := 41) rfl ?_); refine load_all (g := gb243) (ty := 41) rfl rfl rfl (bx BK243.out) (by kernel_rfl) (by kernel_rfl) ?_; simp only [Act.put, List.setIfInBounds_toArray, List.set_cons_zero, List.set_cons_succ]) | ((with_reducible refine gate_dst (N := 1) rfl ?_); refine box_event ?hg (N := 1) ?hd (cs := #[.bool false, .bool false, .bool false, .int .i64 a0_3, .int .i64 a0_4, .slice A0_5 l0_5.length c0_5, .slice A0_6 l0_6.length c0_6, .int .i64 a0_7, .bool a0_8, .bool a0_9, .bool a0_10, .int .i64 a0_11, .int .i64 a0_12, .int .i64 a0_13, .int .i64 a0_14, .string a0_15, .int .i64 a0_16, .int .i64 a0_17, .string a0_18]) (t := 41) ?hr ?_; (case hd => rfl); (case hg => rfl); (case hr => first | (go_simp; done) | (go_simp; rfl)); intro gb243 hg w89 hbox hb; have n0_ := bs HB hb; have n1_ := Aside0.mk (hbox); have n2_ := bz hg; have n3_ := bz hg; clear HB; have HB := n0_; have BK243 := n1_; have GW243 := n2_; have GE243 := n3_; clear n0_ n1_ n2_ n3_; clear hb hbox hg; have hcz90_0 : ∀ i, w89.cell? ⟨gb243, i, none⟩ = _ := blk_cell BK243.out; have hfz90_0 := blk_frozen BK243.out) | (go_at_call 117; (with_reducible refine (impl_isNoSeq.calls a0_3 a0_4 _ _ l0_5 _ _ l0_6 true _ ?side1 ?side2 ?side3 ?side4 A75.out).mono ?_); (case side1 => repeat (first | exact (Kd.C_below HR0_5.out HB.out) | (with_reducible refine Kd.C_alloc ?_ _) | (with_reducible refine Kd.C_drewN ?_ _) | (with_reducible refine Kd.C_drew ?_))); (case side2 => exact HC0_5.out); (case side3 => repeat (first | exact (Kd.C_below HR0_6.out HB.out) | (with_reducible refine Kd.C_alloc ?_ _) | (with_reducible refine Kd.C_drewN ?_ _) | (with_reducible refine Kd.C_drew ?_))); (case side4 => exact HC0_6.out); rintro e w91 ⟨rfl, hb⟩; have n0_ := Aside0.mk (blk_below (bx BK243.out) hb); have n1_ := bs HB hb; clear BK243; clear HB; have BK243 := n0_; have HB := n1_; clear n0_ n1_; (try clear hb); (try clear hb2); (try clear hk); (try clear hi); have hcz92_0 : ∀ i, w91.cell? ⟨gb243, i, none⟩ = _ := blk_cell BK243.out; have hfz92_0 := blk_frozen BK243.out))
                go_ret
                exact ⟨rr, bl⟩
            · rw [if_neg c78] at H
              have c78b0 : (a0_11 == (-1)) = false := beq_eq_false_iff_ne.mpr c78
              have c78b1 : (a0_11 != (-1)) = true := bne_iff_ne.mpr c78
              obtain rfl := Option.some.inj H
              go_enter Try.func51, Try.ntmps51
              go_wp2_with (first | ((with_reducible refine gate_load (t := 41) rfl ?_); refine load_all (g := gb243) (ty := 41) rfl rfl rfl (bx BK243.out) (by kernel_rfl) (by kernel_rfl) ?_; simp only [Act.put, List.setIfInBounds_toArray, List.set_cons_zero, List.set_cons_succ]) | ((with_reducible refine gate_dst (N := 1) rfl ?_); refine box_event ?hg (N := 1) ?hd (cs := #[.bool false, .bool false, .bool false, .int .i64 a0_3, .int .i64 a0_4, .slice A0_5 l0_5.length c0_5, .slice A0_6 l0_6.length c0_6, .int .i64 a0_7, .bool a0_8, .bool a0_9, .bool a0_10, .int .i64 a0_11, .int .i64 a0_12, .int .i64 a0_13, .int .i64 a0_14, .string a0_15, .int .i64 a0_16, .int .i64 a0_17, .string a0_18]) (t := 41) ?hr ?_; (case hd => rfl); (case hg => rfl); (case hr => first | (go_simp; done) | (go_simp; rfl)); intro gb243 hg w93 hbox hb; have n0_ := bs HB hb; have n1_ := Aside0.mk (hbox); have n2_ := bz hg; have n3_ := bz hg; clear HB; have HB := n0_; have BK243 := n1_; have GW243 := n2_; have GE243 := n3_; clear n0_ n1_ n2_ n3_; clear hb hbox hg; have hcz94_0 : ∀ i, w93.cell? ⟨gb243, i, none⟩ = _ := blk_cell BK243.out; have hfz94_0 := blk_frozen BK243.out) | (go_at_call 117; (with_reducible refine (impl_isNoSeq.calls a0_3 a0_4 _ _ l0_5 _ _ l0_6 true _ ?side1 ?side2 ?side3 ?side4 A75.out).mono ?_); (case side1 => repeat (first | exact (Kd.C_below HR0_5.out HB.out) | (with_reducible refine Kd.C_alloc ?_ _) | (with_reducible refine Kd.C_drewN ?_ _) | (with_reducible refine Kd.C_drew ?_))); (case side2 => exact HC0_5.out); (case side3 => repeat (first | exact (Kd.C_below HR0_6.out HB.out) | (with_reducible refine Kd.C_alloc ?_ _) | (with_reducible refine Kd.C_drewN ?_ _) | (with_reducible refine Kd.C_drew ?_))); (case side4 => exact HC0_6.out); rintro e w95 ⟨rfl, hb⟩; have n0_ := Aside0.mk (blk_below (bx BK243.out) hb); have n1_ := bs HB hb; clear BK243; clear HB; have BK243 := n0_; have HB := n1_; clear n0_ n1_; (try clear hb); (try clear hb2); (try clear hk); (try clear hi); have hcz96_0 : ∀ i, w95.cell? ⟨gb243, i, none⟩ = _ := blk_cell BK243.out; have hfz96_0 := blk_frozen BK243.out))
              go_ret
              exact ⟨rr, bl⟩
          · rw [if_neg c77] at H
            have c77b0 : (a0_7 == 0 && (!a0_8 && (!a0_9 && (!a0_10)))) = false := by simpa using c77
            (try (have c77b1 : decide (a0_7 = 0 && (!a0_8 && (!a0_9 && (!a0_10)))) = false := by simpa using c77))
            (try (have c77b2 : (a0_7 == 0 && (!a0_8 && (!a0_9 && (!a0_10)))) = false := by simpa using c77))
            (try (have c77b3 : ¬ (a0_7 = 0 && (!a0_8 && (!a0_9 && (!a0_10)))) := by simpa using c77))
            clear c77
            obtain rfl := Option.some.inj H
            go_enter Try.func51, Try.ntmps51
            go_wp2_with (first | ((with_reducible refine gate_load (t := 41) rfl ?_); refine load_all (g := gb243) (ty := 41) rfl rfl rfl (bx BK243.out) (by kernel_rfl) (by kernel_rfl) ?_; simp only [Act.put, List.setIfInBounds_toArray, List.set_cons_zero, List.set_cons_succ]) | ((with_reducible refine gate_dst (N := 1) rfl ?_); refine box_event ?hg (N := 1) ?hd (cs := #[.bool false, .bool false, .bool false, .int .i64 a0_3, .int .i64 a0_4, .slice A0_5 l0_5.length c0_5, .slice A0_6 l0_6.length c0_6, .int .i64 a0_7, .bool a0_8, .bool a0_9, .bool a0_10, .int .i64 a0_11, .int .i64 a0_12, .int .i64 a0_13, .int .i64 a0_14, .string a0_15, .int .i64 a0_16, .int .i64 a0_17, .string a0_18]) (t := 41) ?hr ?_; (case hd => rfl); (case hg => rfl); (case hr => first | (go_simp; done) | (go_simp; rfl)); intro gb243 hg w97 hbox hb; have n0_ := bs HB hb; have n1_ := Aside0.mk (hbox); have n2_ := bz hg; have n3_ := bz hg; clear HB; have HB := n0_; have BK243 := n1_; have GW243 := n2_; have GE243 := n3_; clear n0_ n1_ n2_ n3_; clear hb hbox hg; have hcz98_0 : ∀ i, w97.cell? ⟨gb243, i, none⟩ = _ := blk_cell BK243.out; have hfz98_0 := blk_frozen BK243.out) | (go_at_call 117; (with_reducible refine (impl_isNoSeq.calls a0_3 a0_4 _ _ l0_5 _ _ l0_6 true _ ?side1 ?side2 ?side3 ?side4 A75.out).mono ?_); (case side1 => repeat (first | exact (Kd.C_below HR0_5.out HB.out) | (with_reducible refine Kd.C_alloc ?_ _) | (with_reducible refine Kd.C_drewN ?_ _) | (with_reducible refine Kd.C_drew ?_))); (case side2 => exact HC0_5.out); (case side3 => repeat (first | exact (Kd.C_below HR0_6.out HB.out) | (with_reducible refine Kd.C_alloc ?_ _) | (with_reducible refine Kd.C_drewN ?_ _) | (with_reducible refine Kd.C_drew ?_))); (case side4 => exact HC0_6.out); rintro e w99 ⟨rfl, hb⟩; have n0_ := Aside0.mk (blk_below (bx BK243.out) hb); have n1_ := bs HB hb; clear BK243; clear HB; have BK243 := n0_; have HB := n1_; clear n0_ n1_; (try clear hb); (try clear hb2); (try clear hk); (try clear hi); have hcz100_0 : ∀ i, w99.cell? ⟨gb243, i, none⟩ = _ := blk_cell BK243.out; have hfz100_0 := blk_frozen BK243.out))
            go_ret
            exact ⟨rr, bl⟩
        · replace c76 := Bool.eq_false_iff.mpr c76
          subst c76
          have H1 : (some false) = some r := by rw [if_neg (show ¬ (false = true) by decide)] at H; exact H
          clear H
          have H := H1
          clear H1
          obtain rfl := Option.some.inj H
          go_enter Try.func51, Try.ntmps51
          go_wp2_with (first | ((with_reducible refine gate_load (t := 41) rfl ?_); refine load_all (g := gb243) (ty := 41) rfl rfl rfl (bx BK243.out) (by kernel_rfl) (by kernel_rfl) ?_; simp only [Act.put, List.setIfInBounds_toArray, List.set_cons_zero, List.set_cons_succ]) | ((with_reducible refine gate_dst (N := 1) rfl ?_); refine box_event ?hg (N := 1) ?hd (cs := #[.bool false, .bool false, .bool false, .int .i64 a0_3, .int .i64 a0_4, .slice A0_5 l0_5.length c0_5, .slice A0_6 l0_6.length c0_6, .int .i64 a0_7, .bool a0_8, .bool a0_9, .bool a0_10, .int .i64 a0_11, .int .i64 a0_12, .int .i64 a0_13, .int .i64 a0_14, .string a0_15, .int .i64 a0_16, .int .i64 a0_17, .string a0_18]) (t := 41) ?hr ?_; (case hd => rfl); (case hg => rfl); (case hr => first | (go_simp; done) | (go_simp; rfl)); intro gb243 hg w101 hbox hb; have n0_ := bs HB hb; have n1_ := Aside0.mk (hbox); have n2_ := bz hg; have n3_ := bz hg; clear HB; have HB := n0_; have BK243 := n1_; have GW243 := n2_; have GE243 := n3_; clear n0_ n1_ n2_ n3_; clear hb hbox hg; have hcz102_0 : ∀ i, w101.cell? ⟨gb243, i, none⟩ = _ := blk_cell BK243.out; have hfz102_0 := blk_frozen BK243.out) | (go_at_call 117; (with_reducible refine (impl_isNoSeq.calls a0_3 a0_4 _ _ l0_5 _ _ l0_6 false _ ?side1 ?side2 ?side3 ?side4 A75.out).mono ?_); (case side1 => repeat (first | exact (Kd.C_below HR0_5.out HB.out) | (with_reducible refine Kd.C_alloc ?_ _) | (with_reducible refine Kd.C_drewN ?_ _) | (with_reducible refine Kd.C_drew ?_))); (case side2 => exact HC0_5.out); (case side3 => repeat (first | exact (Kd.C_below HR0_6.out HB.out) | (with_reducible refine Kd.C_alloc ?_ _) | (with_reducible refine Kd.C_drewN ?_ _) | (with_reducible refine Kd.C_drew ?_))); (case side4 => exact HC0_6.out); rintro e w103 ⟨rfl, hb⟩; have n0_ := Aside0.mk (blk_below (bx BK243.out) hb); have n1_ := bs HB hb; clear BK243; clear HB; have BK243 := n0_; have HB := n1_; clear n0_ n1_; (try clear hb); (try clear hb2); (try clear hk); (try clear hi)))
          go_ret
          exact ⟨rr, bl⟩

end Go.Proofs.Ytlfbcmhjopichaa.QFnExactDecOk
