/- The pure statement of the law FnExactBestMove: over numbers and lists alone, the printed function answers true. Conditions: none beyond the sizes of what a machine holds. -/
import Derived.Test.YtlfbcmhjopichaaQFnExactBestMovex6
import Derived.Laws.BitsLemmas
namespace Go.Proofs.Ytlfbcmhjopichaa.Pure
open Go.RowKit Go.Proofs.Ytlfbcmhjopichaa.QFnExactBestMove Go.Proofs.YtlfbcmhjopichaaW.PrintWords Go.Proofs.YtlfbcmhjopichaaW.PrintLast Go.Proofs.YtlfbcmhjopichaaW.PrintMore
set_option linter.unusedVariables false
set_option linter.unusedSimpArgs false

-- base: whole numbers
theorem wf64 {n : Int} (h : (Lit.int .i64 n).wf = true) : -9223372036854775808 ≤ n ∧ n ≤ 9223372036854775807 := by
  simp [Lit.wf, IntKind.min, IntKind.max, IntKind.signed, IntKind.bits] at h
  omega
theorem w64 {e : Int} (h1 : -9223372036854775808 ≤ e) (h2 : e ≤ 9223372036854775807) : wrap64 e = e := by unfold wrap64; omega
theorem tmod_pos {a b : Int} (h : 0 ≤ a) : Int.tmod a b = a % b := Int.tmod_eq_emod_of_nonneg h
theorem tdiv_pos {a b : Int} (h : 0 ≤ a) : Int.tdiv a b = a / b := Int.tdiv_eq_ediv_of_nonneg h
theorem w64_wf (e : Int) : -9223372036854775808 ≤ wrap64 e ∧ wrap64 e ≤ 9223372036854775807 := by unfold wrap64; omega
-- base: rounds
theorem Ev.mk_ {α : Type} {g : Nat → Option α} {r : α} (K : Nat) (h : ∀ k, K ≤ k → g k = some r) : Ev g r := ⟨K, h⟩
theorem Ev.succ {α : Type} {g : Nat → Option α} {r : α} (h : ∀ k, g (k + 1) = some r) : Ev g r := ⟨1, fun k hk => by obtain ⟨m, rfl⟩ : ∃ m, k = m + 1 := ⟨k - 1, by omega⟩; exact h m⟩
theorem Ev.some {α : Type} (r : α) : Ev (fun _ => Option.some r) r := ⟨0, fun _ _ => rfl⟩
theorem Ev.const {α : Type} {o : Option α} {r : α} (h : o = Option.some r) : Ev (fun _ => o) r := ⟨0, fun _ _ => h⟩
theorem Ev.ite {α : Type} {c : Prop} [Decidable c] {g f : Nat → Option α} {r : α} (h1 : c → Ev g r) (h2 : ¬ c → Ev f r) : Ev (fun k => if c then g k else f k) r := by
  by_cases h : c
  · simpa only [if_pos h] using h1 h
  · simpa only [if_neg h] using h2 h
theorem Ev.pos {α : Type} {c : Prop} [Decidable c] {g f : Nat → Option α} {r : α} (hc : c) (h : Ev g r) : Ev (fun k => if c then g k else f k) r := by
  simpa only [if_pos hc] using h
theorem Ev.neg {α : Type} {c : Prop} [Decidable c] {g f : Nat → Option α} {r : α} (hc : ¬ c) (h : Ev f r) : Ev (fun k => if c then g k else f k) r := by
  simpa only [if_neg hc] using h
theorem Ev.bindc {α β : Type} {o : Option α} {f : Nat → α → Option β} {a : α} {r : β} (h : o = Option.some a) (k : Ev (fun n => f n a) r) : Ev (fun n => o.bind (f n)) r := by
  subst h; exact k
-- within
theorem impl_within_eq (a b c : Int) : impl_within.f a b c = some (decide (b ≤ a ∧ a ≤ c)) := by
  unfold impl_within.f
  by_cases h : a ≥ b
  · rw [if_pos h]; simp [show b ≤ a from h]
  · rw [if_neg h]; simp; omega
-- l01In
theorem spec_l01In_eq (a b c : Int) : spec_l01In.f a b c = some (decide (b ≤ a ∧ a ≤ c)) := by
  unfold spec_l01In.f
  by_cases h : a ≥ b
  · rw [if_pos h]; simp [show b ≤ a from h]
  · rw [if_neg h]; simp; omega
-- Brought value
def brought (n a b : Int) : Int := if b < a ∨ n < a then a else if n > b then b else n
-- Brought impl
theorem impl_Brought_eq (n a b : Int) : impl_Brought.f n a b = some (brought n a b) := by
  unfold impl_Brought.f brought mx mn
  congr 1
  repeat' split
  all_goals omega
-- Brought spec
theorem spec_Brought_eq (k : Nat) (n a b : Int) : spec_Brought.f (k + 1) n a b = some (brought n a b) := by
  unfold spec_Brought.f brought
  by_cases h : b < a
  · rw [if_pos h, if_pos (.inl h)]; simp [spec_Brought.j0]
  · rw [if_neg h]
    by_cases h2 : n < a
    · rw [if_pos (.inr h2)]; simp [spec_Brought.j0, h2]
    · rw [if_neg (fun e => e.elim h h2)]
      simp only [spec_Brought.j0, h2, decide_false]
      rw [if_neg (by decide)]
      split <;> rfl
theorem spec_Brought_ev (n a b : Int) : Ev (fun k => spec_Brought.f k n a b) (brought n a b) := Ev.succ fun k => spec_Brought_eq k n a b
-- lists: rd and drop
theorem rd_drop (l : List Int) (i : Nat) (h : i < l.length) : l.drop i = rd l i :: l.drop (i + 1) := by
  rw [List.drop_eq_getElem_cons h]
  congr 1
  simp [rd, List.getD_eq_getElem?_getD, List.getElem?_eq_getElem h]
theorem w64_succ {i n : Nat} (h : i < n) (hn : n ≤ 9223372036854775807) : wrap64 ((i : Int) + 1) = ((i + 1 : Nat) : Int) := by
  rw [w64 (by omega) (by omega)]; omega
-- toIntS
theorem laws_toIntS_loop (l : List Int) (hl : l.length ≤ 9223372036854775806) : ∀ (d i : Nat) (o : List Int) (k : Nat), l.length - i = d → i ≤ l.length → o.length = l.length → d < k →
    laws_toIntS.l0 k l o i = some (o.take i ++ l.drop i) := by
  intro d
  induction d with
  | zero =>
    intro i o k hd hi ho hk
    obtain ⟨k, rfl⟩ : ∃ m, k = m + 1 := ⟨k - 1, by omega⟩
    simp only [laws_toIntS.l0]
    rw [if_neg (by omega), List.drop_eq_nil_of_le (by omega), List.take_of_length_le (by omega), List.append_nil]
  | succ d ih =>
    intro i o k hd hi ho hk
    obtain ⟨k, rfl⟩ : ∃ m, k = m + 1 := ⟨k - 1, by omega⟩
    simp only [laws_toIntS.l0]
    rw [if_pos (by omega), if_pos (by omega), if_pos (by omega), w64_succ (n := l.length) (by omega) (by omega), ih (i + 1) _ k (by omega) (by omega) (by simpa using ho) (by omega), rd_drop l i (by omega)]
    congr 1
    rw [show ((i : Int)).toNat = i from by omega, List.take_succ_eq_append_getElem (by simp; omega)]
    simp [List.take_set_of_le]
theorem laws_toIntS_ev (l : List Int) (hl : l.length ≤ 35184372088832) : Ev (fun k => laws_toIntS.f k l) l := by
  refine ⟨l.length + 1, fun k hk => ?_⟩
  show laws_toIntS.f k l = some l
  unfold laws_toIntS.f
  rw [if_pos (by omega), if_pos (by omega)]
  have := laws_toIntS_loop l (by omega) l.length 0 (List.replicate ((l.length : Int) : Int).toNat 0) k (by omega) (by omega) (by simp) (by omega)
  simpa using this
-- eqIntS
theorem laws_eqIntS_loop (l m : List Int) (hl : l.length ≤ 9223372036854775806) (hm : m.length = l.length) : ∀ (d i : Nat) (k : Nat), l.length - i = d → i ≤ l.length → d < k →
    laws_eqIntS.l0 k l m i = some (decide (l.drop i = m.drop i)) := by
  intro d
  induction d with
  | zero =>
    intro i k hd hi hk
    obtain ⟨k, rfl⟩ : ∃ m, k = m + 1 := ⟨k - 1, by omega⟩
    simp only [laws_eqIntS.l0]
    rw [if_neg (by omega), List.drop_eq_nil_of_le (by omega), List.drop_eq_nil_of_le (by omega)]; rfl
  | succ d ih =>
    intro i k hd hi hk
    obtain ⟨k, rfl⟩ : ∃ m, k = m + 1 := ⟨k - 1, by omega⟩
    simp only [laws_eqIntS.l0]
    rw [if_pos (by omega), if_pos (by omega), if_pos (by omega), w64_succ (n := l.length) (by omega) (by omega), ih (i + 1) k (by omega) (by omega) (by omega), rd_drop l i (by omega), rd_drop m i (by omega)]
    by_cases h : rd l i = rd m i
    · rw [if_pos h, h]; simp
    · rw [if_neg h]; simp [h]
theorem laws_eqIntS_ev (l m : List Int) (hl : l.length ≤ 9223372036854775806) : Ev (fun k => laws_eqIntS.f k l m) (decide (l = m)) := by
  unfold laws_eqIntS.f
  by_cases h : l.length = m.length
  · simp only [if_pos (show (l.length : Int) = m.length by omega)]
    exact ⟨l.length + 1, fun k hk => by simpa using laws_eqIntS_loop l m hl h.symm l.length 0 k (by omega) (by omega) (by omega)⟩
  · simp only [if_neg (show ¬ (l.length : Int) = m.length by omega)]
    refine Ev.const ?_
    congr 1; symm; rw [decide_eq_false_iff_not]; rintro rfl; exact h rfl
-- rd of a list
theorem rd_mem (l : List Int) (i : Nat) (h : i < l.length) : rd l i ∈ l := by
  simp [rd, List.getD_eq_getElem?_getD, List.getElem?_eq_getElem h]
-- downwards
theorem down_to {P : Nat → Prop} (n : Nat) (h0 : P n) (hs : ∀ i, i < n → P (i + 1) → P i) : ∀ i, i ≤ n → P i := by
  have key : ∀ d i, n - i = d → i ≤ n → P i := by
    intro d
    induction d with
    | zero => intro i hd hi; obtain rfl : i = n := by omega
              exact h0
    | succ d ih => intro i hd hi; exact hs i (by omega) (ih (i + 1) (by omega) (by omega))
  exact fun i hi => key (n - i) i rfl hi
-- PicOk value
def picOk (w h : Int) (d : ByteArray) : Bool := decide (1 ≤ w ∧ w ≤ 256 ∧ 1 ≤ h ∧ h ≤ 256 ∧ (d.size : Int) = w * h)
theorem picOk_iff (w h : Int) (d : ByteArray) : picOk w h d = true ↔ 1 ≤ w ∧ w ≤ 256 ∧ 1 ≤ h ∧ h ≤ 256 ∧ (d.size : Int) = w * h := by simp [picOk]
theorem mul_256 {w h : Int} (h1 : 1 ≤ w) (h2 : w ≤ 256) (h3 : 1 ≤ h) (h4 : h ≤ 256) : 1 ≤ w * h ∧ w * h ≤ 65536 := by
  have a := Int.mul_le_mul h2 h4 (by omega) (by omega : (0 : Int) ≤ 256)
  have b := Int.mul_le_mul h1 h3 (by omega) (by omega : (0 : Int) ≤ w)
  omega
-- PicOk impl
theorem impl_PicOk_eq (w h : Int) (d : ByteArray) : impl_PicOk.f w h d = some (picOk w h d) := by
  unfold impl_PicOk.f picOk
  simp only [impl_within_eq, Option.bind_some, decide_eq_true_eq]
  by_cases h1 : 1 ≤ w ∧ w ≤ 256
  · rw [if_pos h1]
    by_cases h2 : 1 ≤ h ∧ h ≤ 256
    · rw [if_pos h2]
      have := mul_256 h1.1 h1.2 h2.1 h2.2
      rw [w64 (by omega) (by omega), Option.some.injEq, Bool.eq_iff_iff]
      simp [h1, h2]
    · rw [if_neg h2, Option.some.injEq]; symm; rw [decide_eq_false_iff_not]; exact fun h => h2 ⟨h.2.2.1, h.2.2.2.1⟩
  · rw [if_neg h1, Option.some.injEq]; symm; rw [decide_eq_false_iff_not]; exact fun h => h1 ⟨h.1, h.2.1⟩
-- PicOk spec
theorem spec_PicOk_eq (w h : Int) (d : ByteArray) : spec_PicOk.f w h d = some (picOk w h d) := by
  unfold spec_PicOk.f picOk
  simp only [spec_l01In_eq, Option.bind_some, decide_eq_true_eq]
  by_cases h1 : 1 ≤ w ∧ w ≤ 256
  · rw [if_pos h1]
    by_cases h2 : 1 ≤ h ∧ h ≤ 256
    · rw [if_pos h2]
      have := mul_256 h1.1 h1.2 h2.1 h2.2
      rw [w64 (by omega) (by omega), Option.some.injEq, Bool.eq_iff_iff]
      simp [h1, h2]
    · rw [if_neg h2, Option.some.injEq]; symm; rw [decide_eq_false_iff_not]; exact fun h => h2 ⟨h.2.2.1, h.2.2.2.1⟩
  · rw [if_neg h1, Option.some.injEq]; symm; rw [decide_eq_false_iff_not]; exact fun h => h1 ⟨h.1, h.2.1⟩
-- szPic, toPic, eqPic
theorem laws_szPic_eq (w h : Int) (d : ByteArray) (n : Int) (h0 : 0 ≤ n) (h1 : n ≤ 1048576) (hd : d.size ≤ 9223372036854775807) : ∃ t, laws_szPic.f w h d n = some t ∧ (0 ≤ t → (d.size : Int) ≤ n) ∧ t ≤ n ∧ -1 ≤ t := by
  unfold laws_szPic.f
  rw [w64 (by omega) (by omega)]
  by_cases hn : n - (d.size : Int) < 0
  · exact ⟨-1, by rw [if_pos hn], by omega, by omega, by omega⟩
  · exact ⟨n - (d.size : Int), by rw [if_neg hn], by omega, by omega, by omega⟩
-- dots
def dotIn (x : Int) : Bool := decide (0 ≤ x ∧ x ≤ 255)
def dots64 (l : List Int) : Bool := decide (l.length = 64) && l.all dotIn
theorem dots64_rd {l : List Int} (h : dots64 l = true) : l.length = 64 ∧ ∀ i : Nat, i < 64 → 0 ≤ rd l i ∧ rd l i ≤ 255 := by
  simp only [dots64, Bool.and_eq_true, decide_eq_true_eq] at h
  refine ⟨h.1, fun i hi => ?_⟩
  have := List.all_eq_true.1 h.2 _ (rd_mem l i (by omega))
  simpa [dotIn] using this
-- dots spec
theorem spec_l13Dots_ev (l : List Int) : Ev (fun k => spec_l13Dots.f k l) (dots64 l) := by
  unfold spec_l13Dots.f dots64
  by_cases h0 : (l.length : Int) = 64
  · have hl : l.length = 64 := by omega
    simp only [if_pos h0, decide_eq_true hl, Bool.true_and]
    have key : ∀ i, i ≤ l.length → Ev (fun k => spec_l13Dots.l0 k l i) ((l.drop i).all dotIn) := by
      refine down_to _ ?_ ?_
      · rw [List.drop_length]
        exact Ev.step (f := fun _ => some true) (fun k => by rw [spec_l13Dots.l0, if_neg (by omega)]) (Ev.some _)
      · intro i hi ih
        refine Ev.step (fun k => by rw [spec_l13Dots.l0, if_pos (by omega), if_pos (by omega), if_pos (by omega), spec_l01In_eq, Option.bind_some, w64_succ hi (by omega)]) ?_
        rw [rd_drop l i hi, List.all_cons]
        simp only [decide_eq_true_eq]
        refine Ev.ite (fun h => ?_) (fun h => ?_)
        · simpa [dotIn, h] using ih
        · simpa [dotIn, h] using Ev.some false
    simpa using key 0 (by omega)
  · simp only [if_neg h0, decide_eq_false (show ¬ l.length = 64 by omega), Bool.false_and]
    exact Ev.some _
-- dots impl
theorem impl_areIn_dots (l : List Int) (hl : l.length ≤ 9223372036854775806) : Ev (fun k => impl_areIn.f k l 64 0 255) (dots64 l) := by
  unfold impl_areIn.f
  have key : ∀ i, i ≤ l.length → Ev (fun k => impl_areIn.l0 k l 64 0 255 l (l.length : Int) i) ((l.drop i).all dotIn && decide (l.length = 64)) := by
    refine down_to _ ?_ ?_
    · rw [List.drop_length]
      refine Ev.step (f := fun _ => some ((l.length : Int) == 64)) (fun k => by rw [impl_areIn.l0, if_neg (by omega)]) (Ev.const ?_)
      simp only [List.all_nil, Bool.true_and, Option.some.injEq]
      rw [Bool.eq_iff_iff]; simp; omega
    · intro i hi ih
      refine Ev.step (fun k => by rw [impl_areIn.l0, if_pos (by omega), if_pos (by omega), if_pos (by omega), impl_within_eq, Option.bind_some, w64_succ hi (by omega)]) ?_
      rw [rd_drop l i hi, List.all_cons]
      simp only [decide_eq_true_eq]
      refine Ev.ite (fun h => ?_) (fun h => ?_)
      · simpa [dotIn, h] using ih
      · simpa [dotIn, h] using Ev.some false
  have := key 0 (by omega)
  rw [List.drop_zero, Bool.and_comm] at this
  exact this
-- a dot
def dotv (w h : Int) (d : ByteArray) (x y : Int) : Int := bt d (brought y 0 (h - 1) * w + brought x 0 (w - 1))
theorem dotv_range (w h : Int) (d : ByteArray) (x y : Int) : 0 ≤ dotv w h d x y ∧ dotv w h d x y ≤ 255 := bt_range _ _
theorem brought_in (n b : Int) (hb : 0 ≤ b) : 0 ≤ brought n 0 b ∧ brought n 0 b ≤ b := by unfold brought; split <;> (try split) <;> omega
theorem dot_place {w h : Int} {d : ByteArray} (ok : picOk w h d = true) (x y : Int) : 0 ≤ brought y 0 (h - 1) * w + brought x 0 (w - 1) ∧ brought y 0 (h - 1) * w + brought x 0 (w - 1) < d.size ∧ 0 ≤ brought y 0 (h - 1) * w ∧ brought y 0 (h - 1) * w ≤ 65536 := by
  have hp := (picOk_iff w h d).1 ok
  have b1 := brought_in y (h - 1) (by omega)
  have b2 := brought_in x (w - 1) (by omega)
  have m1 := Int.mul_nonneg b1.1 (show 0 ≤ w by omega)
  have m2 := Int.mul_le_mul_of_nonneg_right b1.2 (show 0 ≤ w by omega)
  have m3 : (h - 1) * w = w * h - w := by rw [Int.sub_mul, Int.one_mul, Int.mul_comm]
  have m4 := (mul_256 hp.1 hp.2.1 hp.2.2.1 hp.2.2.2.1).2
  omega
theorem impl_dot_eq {w h : Int} {d : ByteArray} (ok : picOk w h d = true) (x y : Int) : impl_Pic_dot.f w h d x y = some (dotv w h d x y) := by
  have hp := (picOk_iff w h d).1 ok
  unfold impl_Pic_dot.f dotv
  rw [impl_Brought_eq, impl_Brought_eq, w64 (e := h - 1) (by omega) (by omega), w64 (e := w - 1) (by omega) (by omega)]
  simp only [Option.bind_some]
  obtain ⟨p1, p2, p3, p4⟩ := dot_place ok x y
  have b2 := brought_in x (w - 1) (by omega)
  have br := bt_range d (brought y 0 (h - 1) * w + brought x 0 (w - 1))
  rw [w64 (e := brought y 0 (h - 1) * w) (by omega) (by omega), w64 (e := brought y 0 (h - 1) * w + brought x 0 (w - 1)) (by omega) (by omega), if_pos p1, if_pos p2, w64 (by omega) (by omega)]
theorem spec_DotAt_ev {w h : Int} {d : ByteArray} (ok : picOk w h d = true) (x y : Int) : Ev (fun k => spec_DotAt.f k w h d x y) (dotv w h d x y) := by
  have hp := (picOk_iff w h d).1 ok
  unfold spec_DotAt.f dotv
  simp only [spec_PicOk_eq, Option.bind_some, ok, if_true]
  rw [w64 (e := h - 1) (by omega) (by omega), w64 (e := w - 1) (by omega) (by omega)]
  refine Ev.bind (spec_Brought_ev _ _ _) (Ev.bind (spec_Brought_ev _ _ _) ?_)
  obtain ⟨p1, p2, p3, p4⟩ := dot_place ok x y
  have b2 := brought_in x (w - 1) (by omega)
  have br := bt_range d (brought y 0 (h - 1) * w + brought x 0 (w - 1))
  rw [w64 (e := brought y 0 (h - 1) * w) (by omega) (by omega), w64 (e := brought y 0 (h - 1) * w + brought x 0 (w - 1)) (by omega) (by omega), if_pos p1, if_pos p2, w64 (by omega) (by omega)]
  exact Ev.some _
-- a block
def blkAt (w h : Int) (d : ByteArray) (x y : Int) (i : Nat) : Int := dotv w h d (x + ((i % 8 : Nat) : Int)) (y + ((i / 8 : Nat) : Int))
def blkL (w h : Int) (d : ByteArray) (x y : Int) (n : Nat) : List Int := (List.range n).map (blkAt w h d x y)
theorem blkL_succ (w h : Int) (d : ByteArray) (x y : Int) (n : Nat) : blkL w h d x y (n + 1) = blkL w h d x y n ++ [blkAt w h d x y n] := by simp [blkL, List.range_succ]
theorem blkL_length (w h : Int) (d : ByteArray) (x y : Int) (n : Nat) : (blkL w h d x y n).length = n := by simp [blkL]
theorem blkL_dots (w h : Int) (d : ByteArray) (x y : Int) : dots64 (blkL w h d x y 64) = true := by
  simp only [dots64, blkL_length, decide_true, Bool.true_and, List.all_eq_true]
  intro z hz
  obtain ⟨i, _, rfl⟩ := List.mem_map.1 hz
  simp only [dotIn, decide_eq_true_eq]
  exact dotv_range _ _ _ _ _
theorem spec_BlockOf_ev {w h : Int} {d : ByteArray} (ok : picOk w h d = true) (x y : Int) (hx : -1000 ≤ x ∧ x ≤ 1000) (hy : -1000 ≤ y ∧ y ≤ 1000) : Ev (fun k => spec_BlockOf.f k w h d x y) (blkL w h d x y 64) := by
  unfold spec_BlockOf.f
  simp only [Option.bind_some, spec_PicOk_eq, ok, if_true, spec_l01In_eq, decide_eq_true hx, decide_eq_true hy, Bool.not_true]
  refine Ev.step (fun k => by rw [spec_BlockOf.j0, if_neg (by decide)]) ?_
  have key : ∀ i, i ≤ 64 → Ev (fun k => spec_BlockOf.l0 k x y (blkL w h d x y i) i w h d) (blkL w h d x y 64) := by
    refine down_to _ ?_ ?_
    · exact Ev.step (f := fun _ => some (blkL w h d x y 64)) (fun k => by rw [spec_BlockOf.l0, if_neg (by omega)]) (Ev.some _)
    · intro i hi ih
      refine Ev.step (fun k => by rw [spec_BlockOf.l0, if_pos (by omega), tmod_pos (by omega), tdiv_pos (by omega), w64 (e := (i : Int) / 8) (by omega) (by omega), w64 (e := x + (i : Int) % 8) (by omega) (by omega), w64 (e := y + (i : Int) / 8) (by omega) (by omega), w64_succ hi (by omega)]) ?_
      have e := spec_DotAt_ev ok (x + (i : Int) % 8) (y + (i : Int) / 8)
      refine Ev.bind e ?_
      simp only [blkL_length, if_pos (show i < 17592186044416 by omega)]
      have e2 : dotv w h d (x + (i : Int) % 8) (y + (i : Int) / 8) = blkAt w h d x y i := by unfold blkAt; congr 1
      rw [e2, ← blkL_succ]
      exact ih
  simpa [blkL] using key 0 (by omega)
theorem impl_block_ev {w h : Int} {d : ByteArray} (ok : picOk w h d = true) (x y : Int) (hx : -1000 ≤ x ∧ x ≤ 1000) (hy : -1000 ≤ y ∧ y ≤ 1000) : Ev (fun k => impl_Pic_block.f k w h d x y) (blkL w h d x y 64) := by
  unfold impl_Pic_block.f
  simp only [if_pos (show 64 ≤ 35184372088832 by omega)]
  have key : ∀ r, r ≤ 8 → Ev (fun k => impl_Pic_block.l0 k x y (blkL w h d x y (8 * r)) r w h d) (blkL w h d x y 64) := by
    refine down_to _ ?_ ?_
    · exact Ev.step (f := fun _ => some (blkL w h d x y 64)) (fun k => by rw [impl_Pic_block.l0, if_neg (by omega)]) (Ev.some _)
    · intro r hr ih
      refine Ev.step (fun k => by rw [impl_Pic_block.l0, if_pos (by omega)]) ?_
      have inner : ∀ c, c ≤ 8 → Ev (fun k => impl_Pic_block.l1 k x y (blkL w h d x y (8 * r + c)) r r c w h d) (blkL w h d x y 64) := by
        refine down_to _ ?_ ?_
        · refine Ev.step (fun k => by rw [impl_Pic_block.l1, if_neg (by omega), w64_succ hr (by omega)]) ?_
          exact ih
        · intro c hc ih2
          refine Ev.step (fun k => by rw [impl_Pic_block.l1, if_pos (by omega), w64 (e := x + (c : Int)) (by omega) (by omega), w64 (e := y + (r : Int)) (by omega) (by omega), w64_succ hc (by omega), impl_dot_eq ok, Option.bind_some, blkL_length, if_pos (by omega)]) ?_
          have e2 : dotv w h d (x + (c : Int)) (y + (r : Int)) = blkAt w h d x y (8 * r + c) := by
            unfold blkAt
            rw [show (8 * r + c) % 8 = c by omega, show (8 * r + c) / 8 = r by omega]
          rw [e2, ← blkL_succ]
          exact ih2
      exact inner 0 (by omega)
  simpa [blkL] using key 0 (by omega)
-- the gap of two lists
def absI (x : Int) : Int := if x < 0 then -x else x
def gapTo (a b : List Int) : Nat → Int
  | 0 => 0
  | n + 1 => gapTo a b n + absI (rd a n - rd b n)
theorem gapTo_bounds {a b : List Int} (ha : dots64 a = true) (hb : dots64 b = true) : ∀ n : Nat, n ≤ 64 → 0 ≤ gapTo a b n ∧ gapTo a b n ≤ 255 * n
  | 0, _ => by simp [gapTo]
  | n + 1, h => by
    have ih := gapTo_bounds ha hb n (by omega)
    have p := (dots64_rd ha).2 n (by omega)
    have q := (dots64_rd hb).2 n (by omega)
    simp only [gapTo, absI]
    split <;> omega
theorem spec_l09All_ev {l : List Int} (hl : dots64 l = true) : Ev (fun k => spec_l09All.f k l 64 1000) true := by
  obtain ⟨h0, h1⟩ := dots64_rd hl
  unfold spec_l09All.f
  simp only [if_pos (show (l.length : Int) = 64 by omega)]
  have key : ∀ i : Nat, i ≤ 64 → Ev (fun k => spec_l09All.l0 k l 64 1000 i) true := by
    refine down_to _ ?_ ?_
    · exact Ev.step (f := fun _ => some true) (fun k => by rw [spec_l09All.l0, if_neg (by omega)]) (Ev.some _)
    · intro i hi ih
      have := h1 i hi
      refine Ev.step (fun k => by rw [spec_l09All.l0, if_pos (by omega), if_pos (by omega), if_pos (by omega), spec_l01In_eq, Option.bind_some, w64 (e := -1000) (by omega) (by omega), w64_succ hi (by omega), if_pos (decide_eq_true (by omega))]) ?_
      exact ih
  exact key 0 (by omega)
theorem spec_GapOf_ev {a b : List Int} (ha : dots64 a = true) (hb : dots64 b = true) : Ev (fun k => spec_GapOf.f k a b) (gapTo a b 64) := by
  unfold spec_GapOf.f
  refine Ev.bind (spec_l09All_ev ha) ?_
  simp only [if_true]
  refine Ev.bind (spec_l09All_ev hb) ?_
  simp only [Bool.not_true]
  refine Ev.step (fun k => by rw [spec_GapOf.j0, if_neg (by decide)]) ?_
  have la := (dots64_rd ha).1
  have lb := (dots64_rd hb).1
  have key : ∀ i, i ≤ 64 → Ev (fun k => spec_GapOf.l0 k a b (gapTo a b i) i) (gapTo a b 64) := by
    refine down_to _ ?_ ?_
    · exact Ev.step (f := fun _ => some (gapTo a b 64)) (fun k => by rw [spec_GapOf.l0, if_neg (by omega)]) (Ev.some _)
    · intro i hi ih
      have p := (dots64_rd ha).2 i hi
      have q := (dots64_rd hb).2 i hi
      have g := gapTo_bounds ha hb i (by omega)
      have e : spec_l08Sized.f (rd a i - rd b i) = some (absI (rd a i - rd b i)) := by
        unfold spec_l08Sized.f absI
        split
        · rw [w64 (by omega) (by omega)]
        · rfl
      have ab : 0 ≤ absI (rd a i - rd b i) ∧ absI (rd a i - rd b i) ≤ 255 := by unfold absI; split <;> omega
      refine Ev.step (fun k => by rw [spec_GapOf.l0, if_pos (by omega), if_pos (by omega), if_pos (by omega), if_pos (by omega), w64 (e := rd a i - rd b i) (by omega) (by omega), e, Option.bind_some, w64 (e := gapTo a b i + absI (rd a i - rd b i)) (by omega) (by omega), w64_succ hi (by omega)]) ?_
      exact ih
  exact key 0 (by omega)
theorem impl_gap_ev {a b : List Int} (ha : dots64 a = true) (hb : dots64 b = true) : Ev (fun k => impl_gap.f k a b) (gapTo a b 64) := by
  unfold impl_gap.f
  have la := (dots64_rd ha).1
  have lb := (dots64_rd hb).1
  rw [la]
  have key : ∀ i, i ≤ 64 → Ev (fun k => impl_gap.l0 k b (gapTo a b i) a (64 : Nat) i) (gapTo a b 64) := by
    refine down_to _ ?_ ?_
    · exact Ev.step (f := fun _ => some (gapTo a b 64)) (fun k => by rw [impl_gap.l0, if_neg (by omega)]) (Ev.some _)
    · intro i hi ih
      have p := (dots64_rd ha).2 i hi
      have q := (dots64_rd hb).2 i hi
      have g := gapTo_bounds ha hb i (by omega)
      have e : impl_size.f (rd a i - rd b i) = some (absI (rd a i - rd b i)) := by
        unfold impl_size.f absI mx
        rw [w64 (e := -(rd a i - rd b i)) (by omega) (by omega)]
        congr 1
        split <;> split <;> omega
      have ab : 0 ≤ absI (rd a i - rd b i) ∧ absI (rd a i - rd b i) ≤ 255 := by unfold absI; split <;> omega
      refine Ev.step (fun k => by rw [impl_gap.l0, if_pos (by omega), if_pos (by omega), if_pos (by omega), if_pos (by omega), w64 (e := rd a i - rd b i) (by omega) (by omega), e, Option.bind_some, w64 (e := gapTo a b i + absI (rd a i - rd b i)) (by omega) (by omega), w64_succ hi (by omega)]) ?_
      exact ih
  exact key 0 (by omega)
-- the size of a small move
def seSz (d : Int) : Int := if d = 0 then 1 else if d = 1 ∨ d = -1 then 3 else if d = 4 ∨ d = -4 then 7 else 5
theorem seSz_range (d : Int) : 0 ≤ seSz d ∧ seSz d ≤ 7 := by unfold seSz; split <;> (try split) <;> (try split) <;> omega
theorem spec_SeSize_ev {d : Int} (h : -4 ≤ d ∧ d ≤ 4) : Ev (fun k => spec_SeSize.f k d) (seSz d) := by
  refine Ev.of (k := 12) (fun k => spec_SeSize.mono d k) ?_
  obtain rfl | rfl | rfl | rfl | rfl | rfl | rfl | rfl | rfl : d = -4 ∨ d = -3 ∨ d = -2 ∨ d = -1 ∨ d = 0 ∨ d = 1 ∨ d = 2 ∨ d = 3 ∨ d = 4 := by omega
  all_goals decide +kernel
theorem impl_SeSize_ev {d : Int} (h : -4 ≤ d ∧ d ≤ 4) : Ev (fun k => impl_SeSize.f k d) (seSz d) := by
  refine Ev.of (k := 12) (fun k => impl_SeSize.mono d k) ?_
  obtain rfl | rfl | rfl | rfl | rfl | rfl | rfl | rfl | rfl : d = -4 ∨ d = -3 ∨ d = -2 ∨ d = -1 ∨ d = 0 ∨ d = 1 ∨ d = 2 ∨ d = 3 ∨ d = 4 := by omega
  all_goals decide +kernel
-- BestMove value
def heldAt (w h x y : Int) : Bool := decide (0 ≤ x ∧ x ≤ w - 8 ∧ 0 ≤ y ∧ y ≤ h - 8)
def bmStep (w h : Int) (d : ByteArray) (want : List Int) (x y dy dx : Int) (s : Int × Int × Int) : Int × Int × Int :=
  if heldAt w h (x + dx) (y + dy) = true then (if s.2.2 < 0 then (dx, dy, gapTo want (blkL w h d (x + dx) (y + dy) 64) 64 + seSz dx + seSz dy) else (if gapTo want (blkL w h d (x + dx) (y + dy) 64) 64 + seSz dx + seSz dy < s.2.2 then (dx, dy, gapTo want (blkL w h d (x + dx) (y + dy) 64) 64 + seSz dx + seSz dy) else s)) else s
def bmIn (w h : Int) (d : ByteArray) (want : List Int) (x y reach dy : Int) : Nat → Int × Int × Int → Int × Int × Int
  | 0, s => s
  | n + 1, s => bmIn w h d want x y reach dy n (bmStep w h d want x y dy (reach - n) s)
def bmOut (w h : Int) (d : ByteArray) (want : List Int) (x y reach : Int) : Nat → Int × Int × Int → Int × Int × Int
  | 0, s => s
  | n + 1, s => bmOut w h d want x y reach n (bmIn w h d want x y reach (reach - n) (2 * reach + 1).toNat s)
def bmOk (w h : Int) (d : ByteArray) (want : List Int) (x y reach : Int) : Bool := picOk w h d && dots64 want && decide (0 ≤ reach ∧ reach ≤ 4) && decide (Int.tmod x 8 = 0) && decide (Int.tmod y 8 = 0) && heldAt w h x y
def bestMove (w h : Int) (d : ByteArray) (want : List Int) (x y reach : Int) : Int × Int × Int := if bmOk w h d want x y reach = true then bmOut w h d want x y reach (2 * reach + 1).toNat (0, 0, -1) else (0, 0, -1)
theorem bmOk_iff (w h : Int) (d : ByteArray) (want : List Int) (x y reach : Int) : bmOk w h d want x y reach = true ↔ picOk w h d = true ∧ dots64 want = true ∧ (0 ≤ reach ∧ reach ≤ 4) ∧ Int.tmod x 8 = 0 ∧ Int.tmod y 8 = 0 ∧ heldAt w h x y = true := by
  simp [bmOk, and_assoc]
theorem spec_l12Within_8 {w h : Int} {d : ByteArray} (x y : Int) : spec_l12Within.f w h d x y 8 8 = some (picOk w h d && heldAt w h x y) := by
  unfold spec_l12Within.f
  simp only [spec_PicOk_eq, Option.bind_some, spec_l01In_eq, decide_eq_true_eq]
  cases hp : picOk w h d
  · simp
  · have hp' := (picOk_iff w h d).1 hp
    simp only [if_true, Bool.true_and, heldAt]
    rw [w64 (e := w - 8) (by omega) (by omega), w64 (e := h - 8) (by omega) (by omega)]
    by_cases h1 : (1 : Int) ≤ 8 ∧ 8 ≤ w
    · rw [if_pos h1]
      by_cases h2 : (1 : Int) ≤ 8 ∧ 8 ≤ h
      · rw [if_pos h2]
        by_cases h3 : 0 ≤ x ∧ x ≤ w - 8
        · rw [if_pos h3, Option.some.injEq]; exact decide_eq_decide.mpr (by omega)
        · rw [if_neg h3, Option.some.injEq]; symm; rw [decide_eq_false_iff_not]; omega
      · rw [if_neg h2, Option.some.injEq]; symm; rw [decide_eq_false_iff_not]; omega
    · rw [if_neg h1, Option.some.injEq]; symm; rw [decide_eq_false_iff_not]; omega
theorem impl_holds_8 {w h : Int} {d : ByteArray} (hp : picOk w h d = true) (x y : Int) : impl_Pic_holds.f w h d x y 8 8 = some (heldAt w h x y) := by
  unfold impl_Pic_holds.f
  have hp' := (picOk_iff w h d).1 hp
  simp only [Option.bind_some, impl_within_eq, decide_eq_true_eq, heldAt]
  rw [w64 (e := w - 8) (by omega) (by omega), w64 (e := h - 8) (by omega) (by omega)]
  by_cases h1 : (1 : Int) ≤ 8 ∧ 8 ≤ w
  · rw [if_pos h1]
    by_cases h2 : (1 : Int) ≤ 8 ∧ 8 ≤ h
    · rw [if_pos h2]
      by_cases h3 : 0 ≤ x ∧ x ≤ w - 8
      · rw [if_pos h3, Option.some.injEq]; exact decide_eq_decide.mpr (by omega)
      · rw [if_neg h3, Option.some.injEq]; symm; rw [decide_eq_false_iff_not]; omega
    · rw [if_neg h2, Option.some.injEq]; symm; rw [decide_eq_false_iff_not]; omega
  · rw [if_neg h1, Option.some.injEq]; symm; rw [decide_eq_false_iff_not]; omega
theorem impl_isSquare_eq {w h : Int} {d : ByteArray} (hp : picOk w h d = true) (x y : Int) : impl_Pic_isSquare.f w h d x y = some (decide (Int.tmod x 8 = 0) && decide (Int.tmod y 8 = 0) && heldAt w h x y) := by
  unfold impl_Pic_isSquare.f
  have hp' := (picOk_iff w h d).1 hp
  simp only [Option.bind_some, impl_within_eq, decide_eq_true_eq, heldAt]
  rw [w64 (e := w - 8) (by omega) (by omega), w64 (e := h - 8) (by omega) (by omega)]
  by_cases h1 : Int.tmod x 8 = 0
  · by_cases h2 : Int.tmod y 8 = 0
    · simp only [h1, h2, if_true, decide_true, Bool.true_and]
      by_cases h3 : 0 ≤ x ∧ x ≤ w - 8
      · rw [if_pos h3, Option.some.injEq]; exact decide_eq_decide.mpr (by omega)
      · rw [if_neg h3, Option.some.injEq]; symm; rw [decide_eq_false_iff_not]; omega
    · simp [h1, h2]
  · simp [h1]
-- BestMove loops spec
theorem spec_BestMove_in {w h : Int} {d : ByteArray} {want : List Int} {x y reach : Int} (hp : picOk w h d = true) (hw : dots64 want = true) (hr : 0 ≤ reach ∧ reach ≤ 4) (hs : heldAt w h x y = true) (dy : Int) (hdy : -reach ≤ dy ∧ dy ≤ reach) (res : Int × Int × Int)
    : ∀ n : Nat, (n : Int) ≤ 2 * reach + 1 → ∀ s : Int × Int × Int, Ev (fun k => spec_BestMove.l0 k want x y reach (bmIn w h d want x y reach dy n s).1 (bmIn w h d want x y reach dy n s).2.1 (bmIn w h d want x y reach dy n s).2.2 (dy + 1) w h d) res →
      Ev (fun k => spec_BestMove.l1 k want x y reach s.1 s.2.1 s.2.2 dy (reach + 1 - n) w h d) res := by
  have hp' := (picOk_iff w h d).1 hp
  simp only [heldAt, decide_eq_true_eq] at hs
  intro n
  induction n with
  | zero =>
    intro _ s hc
    simp only [bmIn] at hc
    exact Ev.step (fun k => by rw [spec_BestMove.l1, if_neg (by omega), w64 (e := dy + 1) (by omega) (by omega)]) hc
  | succ n ih =>
    intro hn s hc
    have e : reach + 1 - ((n + 1 : Nat) : Int) = reach - n := by omega
    rw [e]
    have next := ih (by omega) (bmStep w h d want x y dy (reach - n) s) hc
    rw [show reach + 1 - (n : Int) = reach - n + 1 by omega] at next
    refine Ev.step (fun k => by rw [spec_BestMove.l1, if_pos (by omega), w64 (e := x + (reach - n)) (by omega) (by omega), w64 (e := y + dy) (by omega) (by omega), w64 (e := reach - n + 1) (by omega) (by omega), spec_l12Within_8, hp, Bool.true_and, Option.bind_some]) ?_
    unfold bmStep at next
    by_cases hh : heldAt w h (x + (reach - n)) (y + dy) = true
    · simp only [if_pos hh] at next ⊢
      have hh' := hh
      simp only [heldAt, decide_eq_true_eq] at hh'
      have hb := blkL_dots w h d (x + (reach - n)) (y + dy)
      refine Ev.bind (spec_BlockOf_ev hp (x + (reach - n)) (y + dy) (by omega) (by omega)) (Ev.bind (spec_GapOf_ev hw hb) (Ev.bind (spec_SeSize_ev (d := reach - n) (by omega)) (Ev.bind (spec_SeSize_ev (d := dy) (by omega)) ?_)))
      have g := gapTo_bounds hw hb 64 (by omega)
      have z1 := seSz_range (reach - n)
      have z2 := seSz_range dy
      rw [w64 (e := gapTo want (blkL w h d (x + (reach - n)) (y + dy) 64) 64 + seSz (reach - n)) (by omega) (by omega), w64 (by omega) (by omega)]
      by_cases c1 : s.2.2 < 0
      · simp only [if_pos c1] at next ⊢
        exact next
      · simp only [if_neg c1] at next ⊢
        by_cases c2 : gapTo want (blkL w h d (x + (reach - n)) (y + dy) 64) 64 + seSz (reach - n) + seSz dy < s.2.2
        · simp only [if_pos c2] at next ⊢
          exact next
        · simp only [if_neg c2] at next ⊢
          exact next
    · simp only [if_neg hh] at next ⊢
      exact next
theorem spec_BestMove_out {w h : Int} {d : ByteArray} {want : List Int} {x y reach : Int} (hp : picOk w h d = true) (hw : dots64 want = true) (hr : 0 ≤ reach ∧ reach ≤ 4) (hs : heldAt w h x y = true)
    : ∀ n : Nat, (n : Int) ≤ 2 * reach + 1 → ∀ s : Int × Int × Int, Ev (fun k => spec_BestMove.l0 k want x y reach s.1 s.2.1 s.2.2 (reach + 1 - n) w h d) (bmOut w h d want x y reach n s) := by
  intro n
  induction n with
  | zero =>
    intro _ s
    refine Ev.step (f := fun _ => some s) (fun k => by rw [spec_BestMove.l0, if_neg (by omega)]) (Ev.some _)
  | succ n ih =>
    intro hn s
    rw [show reach + 1 - ((n + 1 : Nat) : Int) = reach - n by omega]
    refine Ev.step (fun k => by rw [spec_BestMove.l0, if_pos (by omega), w64 (e := -reach) (by omega) (by omega)]) ?_
    have next := ih (by omega) (bmIn w h d want x y reach (reach - n) (2 * reach + 1).toNat s)
    rw [show reach + 1 - (n : Int) = reach - n + 1 by omega] at next
    have inner := spec_BestMove_in hp hw hr hs (reach - n) (by omega) _ (2 * reach + 1).toNat (by omega) s next
    rw [show reach + 1 - (((2 * reach + 1).toNat : Nat) : Int) = -reach by omega] at inner
    exact inner
-- BestMove loops impl
theorem impl_BestMove_in {w h : Int} {d : ByteArray} {want : List Int} {x y reach : Int} (hp : picOk w h d = true) (hw : dots64 want = true) (hr : 0 ≤ reach ∧ reach ≤ 4) (hs : heldAt w h x y = true) (dy : Int) (hdy : -reach ≤ dy ∧ dy ≤ reach) (res : Int × Int × Int)
    : ∀ n : Nat, (n : Int) ≤ 2 * reach + 1 → ∀ s : Int × Int × Int, Ev (fun k => impl_BestMove.l0 k want x y reach (bmIn w h d want x y reach dy n s).1 (bmIn w h d want x y reach dy n s).2.1 (bmIn w h d want x y reach dy n s).2.2 (dy + 1) w h d) res →
      Ev (fun k => impl_BestMove.l1 k want x y reach s.1 s.2.1 s.2.2 dy (reach + 1 - n) w h d) res := by
  have hp' := (picOk_iff w h d).1 hp
  simp only [heldAt, decide_eq_true_eq] at hs
  intro n
  induction n with
  | zero =>
    intro _ s hc
    simp only [bmIn] at hc
    exact Ev.step (fun k => by rw [impl_BestMove.l1, if_neg (by omega), w64 (e := dy + 1) (by omega) (by omega)]) hc
  | succ n ih =>
    intro hn s hc
    have e : reach + 1 - ((n + 1 : Nat) : Int) = reach - n := by omega
    rw [e]
    have next := ih (by omega) (bmStep w h d want x y dy (reach - n) s) hc
    rw [show reach + 1 - (n : Int) = reach - n + 1 by omega] at next
    refine Ev.step (fun k => by rw [impl_BestMove.l1, if_pos (by omega), w64 (e := x + (reach - n)) (by omega) (by omega), w64 (e := y + dy) (by omega) (by omega), w64 (e := reach - n + 1) (by omega) (by omega), impl_holds_8 hp, Option.bind_some]) ?_
    unfold bmStep at next
    by_cases hh : heldAt w h (x + (reach - n)) (y + dy) = true
    · simp only [if_pos hh] at next ⊢
      have hh' := hh
      simp only [heldAt, decide_eq_true_eq] at hh'
      have hb := blkL_dots w h d (x + (reach - n)) (y + dy)
      refine Ev.bind (impl_block_ev hp (x + (reach - n)) (y + dy) (by omega) (by omega)) (Ev.bind (impl_gap_ev hw hb) (Ev.bind (impl_SeSize_ev (d := reach - n) (by omega)) (Ev.bind (impl_SeSize_ev (d := dy) (by omega)) ?_)))
      have g := gapTo_bounds hw hb 64 (by omega)
      have z1 := seSz_range (reach - n)
      have z2 := seSz_range dy
      rw [w64 (e := gapTo want (blkL w h d (x + (reach - n)) (y + dy) 64) 64 + seSz (reach - n)) (by omega) (by omega), w64 (by omega) (by omega)]
      by_cases c1 : s.2.2 < 0
      · simp only [if_pos c1] at next ⊢
        exact next
      · simp only [if_neg c1] at next ⊢
        by_cases c2 : gapTo want (blkL w h d (x + (reach - n)) (y + dy) 64) 64 + seSz (reach - n) + seSz dy < s.2.2
        · simp only [if_pos c2] at next ⊢
          exact next
        · simp only [if_neg c2] at next ⊢
          exact next
    · simp only [if_neg hh] at next ⊢
      exact next
theorem impl_BestMove_out {w h : Int} {d : ByteArray} {want : List Int} {x y reach : Int} (hp : picOk w h d = true) (hw : dots64 want = true) (hr : 0 ≤ reach ∧ reach ≤ 4) (hs : heldAt w h x y = true)
    : ∀ n : Nat, (n : Int) ≤ 2 * reach + 1 → ∀ s : Int × Int × Int, Ev (fun k => impl_BestMove.l0 k want x y reach s.1 s.2.1 s.2.2 (reach + 1 - n) w h d) (bmOut w h d want x y reach n s) := by
  intro n
  induction n with
  | zero =>
    intro _ s
    refine Ev.step (f := fun _ => some s) (fun k => by rw [impl_BestMove.l0, if_neg (by omega)]) (Ev.some _)
  | succ n ih =>
    intro hn s
    rw [show reach + 1 - ((n + 1 : Nat) : Int) = reach - n by omega]
    refine Ev.step (fun k => by rw [impl_BestMove.l0, if_pos (by omega), w64 (e := -reach) (by omega) (by omega)]) ?_
    have next := ih (by omega) (bmIn w h d want x y reach (reach - n) (2 * reach + 1).toNat s)
    rw [show reach + 1 - (n : Int) = reach - n + 1 by omega] at next
    have inner := impl_BestMove_in hp hw hr hs (reach - n) (by omega) _ (2 * reach + 1).toNat (by omega) s next
    rw [show reach + 1 - (((2 * reach + 1).toNat : Nat) : Int) = -reach by omega] at inner
    exact inner
-- BestMove spec
theorem spec_BestMove_ev (w h : Int) (d : ByteArray) (want : List Int) (x y reach : Int) : Ev (fun k => spec_BestMove.f k w h d want x y reach) (bestMove w h d want x y reach) := by
  unfold spec_BestMove.f
  have no : Ev (fun k => spec_BestMove.j0 k want x y reach 0 0 (-1) true w h d) (0, 0, -1) := Ev.step (fun k => by rw [spec_BestMove.j0, if_pos rfl]) (Ev.some _)
  refine Ev.bind (spec_l13Dots_ev want) ?_
  unfold bestMove
  cases hw : dots64 want
  · rw [if_neg (by rw [bmOk_iff, hw]; simp)]
    simpa using no
  · simp only [if_true, spec_l01In_eq, Option.bind_some, decide_eq_true_eq]
    by_cases hr : 0 ≤ reach ∧ reach ≤ 4
    · simp only [if_pos hr]
      have hf : spec_l13Fits.f w h d x y = some (decide (Int.tmod x 8 = 0) && decide (Int.tmod y 8 = 0) && (picOk w h d && heldAt w h x y)) := by
        unfold spec_l13Fits.f
        rw [spec_l12Within_8]
        by_cases h1 : Int.tmod x 8 = 0
        · by_cases h2 : Int.tmod y 8 = 0
          · simp [h1, h2]
          · simp [h1, h2]
        · simp [h1]
      simp only [hf, Option.bind_some]
      by_cases ok : bmOk w h d want x y reach = true
      · rw [if_pos ok]
        obtain ⟨hp, _, _, m1, m2, hs⟩ := (bmOk_iff _ _ _ _ _ _ _).1 ok
        rw [hp, hs, decide_eq_true m1, decide_eq_true m2]
        simp only [Bool.and_self, Bool.not_true]
        refine Ev.step (fun k => by rw [spec_BestMove.j0, if_neg (by decide), w64 (e := -reach) (by omega) (by omega)]) ?_
        have := spec_BestMove_out hp hw hr hs (2 * reach + 1).toNat (by omega) (0, 0, -1)
        rw [show reach + 1 - (((2 * reach + 1).toNat : Nat) : Int) = -reach by omega] at this
        exact this
      · rw [if_neg ok]
        have : (decide (Int.tmod x 8 = 0) && decide (Int.tmod y 8 = 0) && (picOk w h d && heldAt w h x y)) = false := by
          rw [Bool.eq_false_iff]
          intro hh
          simp only [Bool.and_eq_true, decide_eq_true_eq] at hh
          exact ok ((bmOk_iff _ _ _ _ _ _ _).2 ⟨hh.2.1, hw, hr, hh.1.1, hh.1.2, hh.2.2⟩)
        rw [this]
        exact no
    · rw [if_neg (by rw [bmOk_iff]; exact fun h => hr h.2.2.1)]
      simp only [if_neg hr]
      exact no
-- BestMove impl
theorem impl_BestMove_ev (w h : Int) (d : ByteArray) (want : List Int) (x y reach : Int) (hl : want.length ≤ 9223372036854775806) : Ev (fun k => impl_BestMove.f k w h d want x y reach) (bestMove w h d want x y reach) := by
  unfold impl_BestMove.f
  have no : Ev (fun k => impl_BestMove.j0 k want x y reach true w h d) (0, 0, -1) := Ev.step (fun k => by rw [impl_BestMove.j0, if_pos rfl]) (Ev.some _)
  unfold bestMove
  simp only [impl_PicOk_eq, Option.bind_some]
  cases hp : picOk w h d
  · rw [if_neg (by rw [bmOk_iff, hp]; simp)]
    simpa using no
  · simp only [if_true]
    refine Ev.bind (impl_areIn_dots want hl) ?_
    cases hw : dots64 want
    · rw [if_neg (by rw [bmOk_iff, hw]; simp)]
      simpa using no
    · simp only [if_true, impl_within_eq, Option.bind_some, decide_eq_true_eq]
      by_cases hr : 0 ≤ reach ∧ reach ≤ 4
      · simp only [if_pos hr, impl_isSquare_eq hp, Option.bind_some]
        by_cases ok : bmOk w h d want x y reach = true
        · rw [if_pos ok]
          obtain ⟨_, _, _, m1, m2, hs⟩ := (bmOk_iff _ _ _ _ _ _ _).1 ok
          rw [hs, decide_eq_true m1, decide_eq_true m2]
          simp only [Bool.and_self, Bool.not_true]
          refine Ev.step (fun k => by rw [impl_BestMove.j0, if_neg (by decide), w64 (e := -reach) (by omega) (by omega)]) ?_
          have := impl_BestMove_out hp hw hr hs (2 * reach + 1).toNat (by omega) (0, 0, -1)
          rw [show reach + 1 - (((2 * reach + 1).toNat : Nat) : Int) = -reach by omega] at this
          exact this
        · rw [if_neg ok]
          have : (decide (Int.tmod x 8 = 0) && decide (Int.tmod y 8 = 0) && heldAt w h x y) = false := by
            rw [Bool.eq_false_iff]
            intro hh
            simp only [Bool.and_eq_true, decide_eq_true_eq] at hh
            exact ok ((bmOk_iff _ _ _ _ _ _ _).2 ⟨hp, hw, hr, hh.1.1, hh.1.2, hh.2⟩)
          rw [this]
          exact no
      · rw [if_neg (by rw [bmOk_iff]; exact fun h => hr h.2.2.1)]
        simp only [if_neg hr]
        exact no
-- LAW FnExactBestMove
theorem FnExactBestMove (a0_0 a0_1 : Int) (a0_2 : ByteArray) (l1 : List Int) (a2 a3 a4 : Int) (y0_2 : a0_2.size ≤ maxLen) (m1 : l1.length ≤ maxLen) :
    ∃ k, laws_FnExactBestMove.f k a0_0 a0_1 a0_2 l1 a2 a3 a4 = some true := by
  refine Ev.rounds (g := fun k => laws_FnExactBestMove.f k a0_0 a0_1 a0_2 l1 a2 a3 a4) ?_
  unfold laws_FnExactBestMove.f
  simp only [maxLen] at m1 y0_2
  refine Ev.ite (fun _ => Ev.some _) (fun h0 => ?_)
  obtain ⟨t, ht, h1, h2, _⟩ := laws_szPic_eq a0_0 a0_1 a0_2 1048576 (by omega) (by omega) (by omega)
  rw [ht]
  simp only [Option.bind_some]
  refine Ev.ite (fun _ => Ev.some _) (fun h => ?_)
  simp only [laws_toPic.f, Option.bind_some]
  have hq := laws_toIntS_ev l1 (by omega)
  have e1 := spec_BestMove_ev a0_0 a0_1 a0_2 l1 a2 a3 a4
  have e2 := impl_BestMove_ev a0_0 a0_1 a0_2 l1 a2 a3 a4 (by omega)
  refine Ev.bind hq (Ev.bind e1 (Ev.bind hq (Ev.bind e2 ?_)))
  simp only [if_true, bne_self_eq_false]
  refine Ev.step (fun k => by rw [laws_FnExactBestMove.j0, if_neg (by decide)]) ?_
  refine Ev.bind hq (Ev.bind (laws_eqIntS_ev l1 l1 (by omega)) ?_)
  simp only [decide_true, if_true]
  exact Ev.some _

end Go.Proofs.Ytlfbcmhjopichaa.Pure
