/- The pure statement of the law FnExactAdmitLose: over numbers and lists alone, the printed function answers true. Conditions: none beyond the sizes of what a machine holds. -/
import Derived.Test.YthgoneamhlcmbaaQFnExactAdmitLosex9
import Derived.Laws.BitsLemmas
namespace Go.Proofs.Ythgoneamhlcmbaa.Pure
open Go.RowKit Go.Proofs.Ythgoneamhlcmbaa.QFnExactAdmitLose Go.Proofs.YthgoneamhlcmbaaW.PrintWords Go.Proofs.YthgoneamhlcmbaaW.PrintLast Go.Proofs.YthgoneamhlcmbaaW.PrintMore
set_option linter.unusedVariables false
set_option linter.unusedSimpArgs false

-- base: whole numbers
theorem wf64 {n : Int} (h : (Lit.int .i64 n).wf = true) : -9223372036854775808 ≤ n ∧ n ≤ 9223372036854775807 := by
  simp [Lit.wf, IntKind.min, IntKind.max, IntKind.signed, IntKind.bits] at h
  omega
theorem w64 {e : Int} (h1 : -9223372036854775808 ≤ e) (h2 : e ≤ 9223372036854775807) : wrap64 e = e := by unfold wrap64; omega
theorem tmod_pos {a b : Int} (h : 0 ≤ a) : Int.tmod a b = a % b := Int.tmod_eq_emod_of_nonneg h
theorem tdiv_pos {a b : Int} (h : 0 ≤ a) : Int.tdiv a b = a / b := Int.tdiv_eq_ediv_of_nonneg h
theorem w64_wf (e : Int) : -9223372036854775808 ≤ wrap64 e ∧ wrap64 e ≤ 9223372036854775807 := by unfold wrap64; omega
-- base: rounds
theorem Ev.mk_ {α : Type} {g : Nat → Option α} {r : α} (K : Nat) (h : ∀ k, K ≤ k → g k = some r) : Ev g r := ⟨K, h⟩
theorem Ev.succ {α : Type} {g : Nat → Option α} {r : α} (h : ∀ k, g (k + 1) = some r) : Ev g r := ⟨1, fun k hk => by obtain ⟨m, rfl⟩ : ∃ m, k = m + 1 := ⟨k - 1, by omega⟩; exact h m⟩
theorem Ev.some {α : Type} (r : α) : Ev (fun _ => Option.some r) r := ⟨0, fun _ _ => rfl⟩
theorem Ev.const {α : Type} {o : Option α} {r : α} (h : o = Option.some r) : Ev (fun _ => o) r := ⟨0, fun _ _ => h⟩
theorem Ev.ite {α : Type} {c : Prop} [Decidable c] {g f : Nat → Option α} {r : α} (h1 : c → Ev g r) (h2 : ¬ c → Ev f r) : Ev (fun k => if c then g k else f k) r := by
  by_cases h : c
  · simpa only [if_pos h] using h1 h
  · simpa only [if_neg h] using h2 h
theorem Ev.pos {α : Type} {c : Prop} [Decidable c] {g f : Nat → Option α} {r : α} (hc : c) (h : Ev g r) : Ev (fun k => if c then g k else f k) r := by
  simpa only [if_pos hc] using h
theorem Ev.neg {α : Type} {c : Prop} [Decidable c] {g f : Nat → Option α} {r : α} (hc : ¬ c) (h : Ev f r) : Ev (fun k => if c then g k else f k) r := by
  simpa only [if_neg hc] using h
theorem Ev.bindc {α β : Type} {o : Option α} {f : Nat → α → Option β} {a : α} {r : β} (h : o = Option.some a) (k : Ev (fun n => f n a) r) : Ev (fun n => o.bind (f n)) r := by
  subst h; exact k
-- within
theorem impl_within_eq (a b c : Int) : impl_within.f a b c = some (decide (b ≤ a ∧ a ≤ c)) := by
  unfold impl_within.f
  by_cases h : a ≥ b
  · rw [if_pos h]; simp [show b ≤ a from h]
  · rw [if_neg h]; simp; omega
-- l01In
theorem spec_l01In_eq (a b c : Int) : spec_l01In.f a b c = some (decide (b ≤ a ∧ a ≤ c)) := by
  unfold spec_l01In.f
  by_cases h : a ≥ b
  · rw [if_pos h]; simp [show b ≤ a from h]
  · rw [if_neg h]; simp; omega
-- Brought value
def brought (n a b : Int) : Int := if b < a ∨ n < a then a else if n > b then b else n
-- Brought spec
theorem spec_Brought_eq (k : Nat) (n a b : Int) : spec_Brought.f (k + 1) n a b = some (brought n a b) := by
  unfold spec_Brought.f brought
  by_cases h : b < a
  · rw [if_pos h, if_pos (.inl h)]; simp [spec_Brought.j0]
  · rw [if_neg h]
    by_cases h2 : n < a
    · rw [if_pos (.inr h2)]; simp [spec_Brought.j0, h2]
    · rw [if_neg (fun e => e.elim h h2)]
      simp only [spec_Brought.j0, h2, decide_false]
      rw [if_neg (by decide)]
      split <;> rfl
theorem spec_Brought_ev (n a b : Int) : Ev (fun k => spec_Brought.f k n a b) (brought n a b) := Ev.succ fun k => spec_Brought_eq k n a b
-- lists: rd and drop
theorem rd_drop (l : List Int) (i : Nat) (h : i < l.length) : l.drop i = rd l i :: l.drop (i + 1) := by
  rw [List.drop_eq_getElem_cons h]
  congr 1
  simp [rd, List.getD_eq_getElem?_getD, List.getElem?_eq_getElem h]
theorem w64_succ {i n : Nat} (h : i < n) (hn : n ≤ 9223372036854775807) : wrap64 ((i : Int) + 1) = ((i + 1 : Nat) : Int) := by
  rw [w64 (by omega) (by omega)]; omega
-- toIntS
theorem laws_toIntS_loop (l : List Int) (hl : l.length ≤ 9223372036854775806) : ∀ (d i : Nat) (o : List Int) (k : Nat), l.length - i = d → i ≤ l.length → o.length = l.length → d < k →
    laws_toIntS.l0 k l o i = some (o.take i ++ l.drop i) := by
  intro d
  induction d with
  | zero =>
    intro i o k hd hi ho hk
    obtain ⟨k, rfl⟩ : ∃ m, k = m + 1 := ⟨k - 1, by omega⟩
    simp only [laws_toIntS.l0]
    rw [if_neg (by omega), List.drop_eq_nil_of_le (by omega), List.take_of_length_le (by omega), List.append_nil]
  | succ d ih =>
    intro i o k hd hi ho hk
    obtain ⟨k, rfl⟩ : ∃ m, k = m + 1 := ⟨k - 1, by omega⟩
    simp only [laws_toIntS.l0]
    rw [if_pos (by omega), if_pos (by omega), if_pos (by omega), w64_succ (n := l.length) (by omega) (by omega), ih (i + 1) _ k (by omega) (by omega) (by simpa using ho) (by omega), rd_drop l i (by omega)]
    congr 1
    rw [show ((i : Int)).toNat = i from by omega, List.take_succ_eq_append_getElem (by simp; omega)]
    simp [List.take_set_of_le]
theorem laws_toIntS_ev (l : List Int) (hl : l.length ≤ 35184372088832) : Ev (fun k => laws_toIntS.f k l) l := by
  refine ⟨l.length + 1, fun k hk => ?_⟩
  show laws_toIntS.f k l = some l
  unfold laws_toIntS.f
  rw [if_pos (by omega), if_pos (by omega)]
  have := laws_toIntS_loop l (by omega) l.length 0 (List.replicate ((l.length : Int) : Int).toNat 0) k (by omega) (by omega) (by simp) (by omega)
  simpa using this
-- eqIntS
theorem laws_eqIntS_loop (l m : List Int) (hl : l.length ≤ 9223372036854775806) (hm : m.length = l.length) : ∀ (d i : Nat) (k : Nat), l.length - i = d → i ≤ l.length → d < k →
    laws_eqIntS.l0 k l m i = some (decide (l.drop i = m.drop i)) := by
  intro d
  induction d with
  | zero =>
    intro i k hd hi hk
    obtain ⟨k, rfl⟩ : ∃ m, k = m + 1 := ⟨k - 1, by omega⟩
    simp only [laws_eqIntS.l0]
    rw [if_neg (by omega), List.drop_eq_nil_of_le (by omega), List.drop_eq_nil_of_le (by omega)]; rfl
  | succ d ih =>
    intro i k hd hi hk
    obtain ⟨k, rfl⟩ : ∃ m, k = m + 1 := ⟨k - 1, by omega⟩
    simp only [laws_eqIntS.l0]
    rw [if_pos (by omega), if_pos (by omega), if_pos (by omega), w64_succ (n := l.length) (by omega) (by omega), ih (i + 1) k (by omega) (by omega) (by omega), rd_drop l i (by omega), rd_drop m i (by omega)]
    by_cases h : rd l i = rd m i
    · rw [if_pos h, h]; simp
    · rw [if_neg h]; simp [h]
theorem laws_eqIntS_ev (l m : List Int) (hl : l.length ≤ 9223372036854775806) : Ev (fun k => laws_eqIntS.f k l m) (decide (l = m)) := by
  unfold laws_eqIntS.f
  by_cases h : l.length = m.length
  · simp only [if_pos (show (l.length : Int) = m.length by omega)]
    exact ⟨l.length + 1, fun k hk => by simpa using laws_eqIntS_loop l m hl h.symm l.length 0 k (by omega) (by omega) (by omega)⟩
  · simp only [if_neg (show ¬ (l.length : Int) = m.length by omega)]
    refine Ev.const ?_
    congr 1; symm; rw [decide_eq_false_iff_not]; rintro rfl; exact h rfl
-- rd of a list
theorem rd_mem (l : List Int) (i : Nat) (h : i < l.length) : rd l i ∈ l := by
  simp [rd, List.getD_eq_getElem?_getD, List.getElem?_eq_getElem h]
-- downwards
theorem down_to {P : Nat → Prop} (n : Nat) (h0 : P n) (hs : ∀ i, i < n → P (i + 1) → P i) : ∀ i, i ≤ n → P i := by
  have key : ∀ d i, n - i = d → i ≤ n → P i := by
    intro d
    induction d with
    | zero => intro i hd hi; obtain rfl : i = n := by omega
              exact h0
    | succ d ih => intro i hd hi; exact hs i (by omega) (ih (i + 1) (by omega) (by omega))
  exact fun i hi => key (n - i) i rfl hi
-- sums
def isum : List Int → Int
  | [] => 0
  | x :: r => x + isum r
def okSide (x : Int) : Bool := decide (1 ≤ x ∧ x ≤ 8)
def sideOk (l : List Int) : Bool := decide (1 ≤ l.length ∧ l.length ≤ 4) && l.all okSide
theorem isum_bounds (l : List Int) (h : l.all okSide = true) : (l.length : Int) ≤ isum l ∧ isum l ≤ 8 * l.length := by
  induction l with
  | nil => simp [isum]
  | cons x r ih =>
    simp only [List.all_cons, Bool.and_eq_true, okSide, decide_eq_true_eq] at h
    have := ih h.2
    simp only [isum, List.length_cons]
    omega
theorem sideOk_bounds {l : List Int} (h : sideOk l = true) : 1 ≤ l.length ∧ l.length ≤ 4 ∧ (l.length : Int) ≤ isum l ∧ isum l ≤ 8 * l.length ∧ l.all okSide = true := by
  simp only [sideOk, Bool.and_eq_true, decide_eq_true_eq] at h
  have := isum_bounds l h.2
  exact ⟨h.1.1, h.1.2, this.1, this.2, h.2⟩
def sumIf (l : List Int) : Int := if sideOk l = true then isum l else 0
theorem sumIf_bounds (l : List Int) : 0 ≤ sumIf l ∧ sumIf l ≤ 32 := by
  unfold sumIf
  split
  · rename_i h
    have := sideOk_bounds h
    omega
  · omega
def squares (c r : List Int) : Int := sumIf c * sumIf r
theorem squares_bounds (c r : List Int) : 0 ≤ squares c r ∧ squares c r ≤ 1024 := by
  have h1 := sumIf_bounds c
  have h2 := sumIf_bounds r
  unfold squares
  constructor
  · exact Int.mul_nonneg h1.1 h2.1
  · have := Int.mul_le_mul h1.2 h2.2 h2.1 (by omega : (0 : Int) ≤ 32)
    omega
def levelSquares (n : Int) : Int := if n = 1 then 16 else if n = 2 then 64 else if n = 3 then 256 else 0
def seqOk (lv b : Int) (c r : List Int) : Bool := decide (1 ≤ squares c r ∧ squares c r ≤ levelSquares lv ∧ 3 ≤ b ∧ b ≤ 8)
-- spec l05Sum
theorem spec_l05Sum_loop (l : List Int) (hl : l.length ≤ 4) : ∀ i, i ≤ l.length → ∀ a : Int, 0 ≤ a → a ≤ 8 * i → Ev (fun k => spec_l05Sum.l0 k l a i) (if (l.drop i).all okSide = true then a + isum (l.drop i) else 0) := by
  refine down_to _ ?_ ?_
  · intro a h0 h1
    refine Ev.step (f := fun _ => some a) (fun k => by simp only [spec_l05Sum.l0]; rw [if_neg (by omega)]) ?_
    rw [List.drop_eq_nil_of_le (Nat.le_refl _)]
    simpa [isum] using Ev.some a
  · intro i hi ih a h0 h1
    refine Ev.step (fun k => by rw [spec_l05Sum.l0, if_pos (by omega), if_pos (by omega), spec_l01In_eq, Option.bind_some]) ?_
    rw [rd_drop l i hi]
    simp only [decide_eq_true_eq, List.all_cons, Bool.and_eq_true, okSide, isum]
    refine Ev.ite (fun hc => ?_) (fun hc => ?_)
    · rw [w64 (by omega) (by omega), w64_succ hi (by omega)]
      have := ih (a + rd l i) (by omega) (by omega)
      simp only [hc.1, hc.2, and_self, true_and]
      rw [show a + (rd l i + isum (l.drop (i + 1))) = a + rd l i + isum (l.drop (i + 1)) by omega]
      simpa [okSide] using this
    · simpa [hc] using Ev.some (0 : Int)
theorem spec_l05Sum_ev (l : List Int) : Ev (fun k => spec_l05Sum.f k l) (sumIf l) := by
  unfold spec_l05Sum.f sumIf sideOk
  by_cases h1 : l.length < 1
  · simp only [if_pos (show (l.length : Int) < 1 by omega)]
    refine Ev.step (f := fun _ => some 0) (fun k => by simp [spec_l05Sum.j0]) ?_
    simpa [show ¬ 1 ≤ l.length by omega] using Ev.some (0 : Int)
  · simp only [if_neg (show ¬ (l.length : Int) < 1 by omega)]
    by_cases h4 : l.length > 4
    · refine Ev.step (f := fun _ => some 0) (fun k => by simp [spec_l05Sum.j0]; omega) ?_
      simpa [show ¬ l.length ≤ 4 by omega] using Ev.some (0 : Int)
    · refine Ev.step (f := fun k => spec_l05Sum.l0 k l 0 0) (fun k => by simp [spec_l05Sum.j0]; omega) ?_
      have := spec_l05Sum_loop l (by omega) 0 (by omega) 0 (by omega) (by omega)
      simpa [show 1 ≤ l.length by omega, show l.length ≤ 4 by omega] using this
-- spec SquaresOf
theorem spec_SquaresOf_ev (a b : Int) (c r : List Int) : Ev (fun k => spec_SquaresOf.f k a b c r) (squares c r) := by
  unfold spec_SquaresOf.f
  refine Ev.bind (spec_l05Sum_ev c) (Ev.bind (spec_l05Sum_ev r) ?_)
  have h := squares_bounds c r
  unfold squares at h
  rw [w64 (by omega) (by omega)]
  exact Ev.some _
-- spec LevelSquares
theorem spec_LevelSquares_eq (n : Int) : spec_LevelSquares.f n = some (levelSquares n) := by
  unfold spec_LevelSquares.f levelSquares
  repeat' split
  all_goals rfl
-- spec SeqOk
theorem spec_SeqOk_ev (lv b : Int) (c r : List Int) : Ev (fun k => spec_SeqOk.f k lv b c r) (seqOk lv b c r) := by
  unfold spec_SeqOk.f seqOk
  refine Ev.bind (spec_SquaresOf_ev lv b c r) ?_
  simp only [spec_LevelSquares_eq, Option.bind_some, spec_l01In_eq, decide_eq_true_eq]
  refine Ev.const ?_
  split
  · congr 1; rw [decide_eq_decide]; omega
  · congr 1; symm; rw [decide_eq_false_iff_not]; omega
-- impl sumOf
theorem impl_sumOf_loop (l : List Int) (hl : l.length ≤ 4) (ha : l.all okSide = true) : ∀ i, i ≤ l.length → ∀ a : Int, 0 ≤ a → a ≤ 8 * i → Ev (fun k => impl_sumOf.l0 k a l (l.length : Int) i) (a + isum (l.drop i)) := by
  refine down_to _ ?_ ?_
  · intro a h0 h1
    refine Ev.step (f := fun _ => some a) (fun k => by simp only [impl_sumOf.l0]; rw [if_neg (by omega)]) ?_
    rw [List.drop_eq_nil_of_le (Nat.le_refl _)]
    simpa [isum] using Ev.some a
  · intro i hi ih a h0 h1
    have hr : 1 ≤ rd l i ∧ rd l i ≤ 8 := by
      have := List.all_eq_true.1 ha _ (rd_mem l i hi)
      simpa [okSide] using this
    refine Ev.step (fun k => by rw [impl_sumOf.l0, if_pos (by omega), if_pos (by omega), if_pos (by omega), w64 (by omega) (by omega), w64_succ hi (by omega)]) ?_
    rw [rd_drop l i hi]
    simp only [isum]
    rw [show a + (rd l i + isum (l.drop (i + 1))) = a + rd l i + isum (l.drop (i + 1)) by omega]
    exact ih _ (by omega) (by omega)
theorem impl_sumOf_ev (l : List Int) (hl : l.length ≤ 4) (ha : l.all okSide = true) : Ev (fun k => impl_sumOf.f k l) (isum l) := by
  unfold impl_sumOf.f
  simpa using impl_sumOf_loop l hl ha 0 (by omega) 0 (by omega) (by omega)
-- impl SquaresOf
theorem impl_SquaresOf_inner (L : List (List Int)) (n i : Int) (a b : Int) (c r : List Int) (l : List Int) (hl : l.length ≤ 4) (res : Int) (hn : (∃ d, wrap64 (i + 1) = d ∧ (l.all okSide = true → Ev (fun k => impl_SquaresOf.l0 k L n d a b c r) res))) (hbad : ¬ l.all okSide = true → res = 0) :
    ∀ j, j ≤ l.length → (l.take j).all okSide = true → Ev (fun k => impl_SquaresOf.l1 k L n i l (l.length : Int) j a b c r) res := by
  obtain ⟨d, hd, hn⟩ := hn
  refine down_to _ ?_ ?_
  · intro ht
    rw [List.take_length] at ht
    exact Ev.step (fun k => by rw [impl_SquaresOf.l1, if_neg (by omega), hd]) (hn ht)
  · intro j hj ih ht
    refine Ev.step (fun k => by rw [impl_SquaresOf.l1, if_pos (by omega), if_pos (by omega), if_pos (by omega), impl_within_eq, Option.bind_some, w64_succ hj (by omega)]) ?_
    simp only [decide_eq_true_eq]
    refine Ev.ite (fun hc => ?_) (fun hc => ?_)
    · refine ih ?_
      have e : l.take (j + 1) = l.take j ++ [rd l j] := by
        rw [List.take_succ_eq_append_getElem hj]
        simp [rd, List.getD_eq_getElem?_getD, List.getElem?_eq_getElem hj]
      rw [e, List.all_append, ht]
      simpa [okSide] using hc
    · rw [hbad (fun h => hc (by have := List.all_eq_true.1 h _ (rd_mem l j hj); simpa [okSide] using this))]
      exact Ev.some _
theorem impl_SquaresOf_ev (a b : Int) (c r : List Int) (hc : c.length ≤ 9223372036854775806) (hr : r.length ≤ 9223372036854775806) : Ev (fun k => impl_SquaresOf.f k a b c r) (squares c r) := by
  unfold impl_SquaresOf.f
  simp only [Option.bind_some, List.length_cons, List.length_nil]
  have r0 : rd_L1 [c, r] 0 = c := rfl
  have r1 : rd_L1 [c, r] 1 = r := rfl
  have e1 : wrap64 (0 + 1) = 1 := by unfold wrap64; omega
  have e2 : wrap64 (1 + 1) = 2 := by unfold wrap64; omega
  have bad : ∀ l m : List Int, ¬ sideOk l = true → sumIf l * sumIf m = 0 ∧ sumIf m * sumIf l = 0 := by
    intro l m h
    have : sumIf l = 0 := by unfold sumIf; rw [if_neg h]
    rw [this]; simp
  refine Ev.step (fun k => by rw [impl_SquaresOf.l0, if_pos (by simp), if_pos (by omega), if_pos (by simp), r0, impl_within_eq, Option.bind_some]) ?_
  simp only [decide_eq_true_eq]
  refine Ev.ite (fun h1 => ?_) (fun h1 => ?_)
  · refine impl_SquaresOf_inner [c, r] _ 0 a b c r c (by omega) _ ⟨1, e1, fun ha => ?_⟩ (fun hb => (bad c r (fun h => hb (sideOk_bounds h).2.2.2.2)).1) 0 (by omega) (by simp)
    refine Ev.step (fun k => by rw [impl_SquaresOf.l0, if_pos (by simp), if_pos (by omega), if_pos (by simp), r1, impl_within_eq, Option.bind_some]) ?_
    simp only [decide_eq_true_eq]
    refine Ev.ite (fun h2 => ?_) (fun h2 => ?_)
    · refine impl_SquaresOf_inner [c, r] _ 1 a b c r r (by omega) _ ⟨2, e2, fun hb => ?_⟩ (fun hb => (bad r c (fun h => hb (sideOk_bounds h).2.2.2.2)).2) 0 (by omega) (by simp)
      refine Ev.step (fun k => by rw [impl_SquaresOf.l0, if_neg (by simp)]) ?_
      refine Ev.bind (impl_sumOf_ev c (by omega) ha) (Ev.bind (impl_sumOf_ev r (by omega) hb) ?_)
      have s1 : sideOk c = true := by simp [sideOk, ha]; omega
      have s2 : sideOk r = true := by simp [sideOk, hb]; omega
      have h := squares_bounds c r
      unfold squares sumIf at h
      unfold sumIf
      rw [if_pos s1, if_pos s2] at h ⊢
      rw [w64 (by omega) (by omega)]
      exact Ev.some _
    · have : sumIf c * sumIf r = 0 := (bad r c (fun h => h2 (by have := sideOk_bounds h; omega))).2
      rw [this]; exact Ev.some _
  · have : squares c r = 0 := (bad c r (fun h => h1 (by have := sideOk_bounds h; omega))).1
    rw [this]; exact Ev.some _
-- impl LevelSquares
theorem impl_LevelSquares_eq (n : Int) : impl_LevelSquares.f n = some (levelSquares n) := by
  unfold impl_LevelSquares.f levelSquares
  simp only [impl_within_eq, Option.bind_some, decide_eq_true_eq]
  by_cases h : 1 ≤ n ∧ n ≤ 3
  · obtain rfl | rfl | rfl : n = 1 ∨ n = 2 ∨ n = 3 := by omega
    all_goals decide +kernel
  · rw [if_neg h, if_neg (by omega), if_neg (by omega), if_neg (by omega)]
-- impl SeqOk
theorem impl_SeqOk_ev (lv b : Int) (c r : List Int) (hc : c.length ≤ 9223372036854775806) (hr : r.length ≤ 9223372036854775806) : Ev (fun k => impl_SeqOk.f k lv b c r) (seqOk lv b c r) := by
  unfold impl_SeqOk.f seqOk
  refine Ev.bind (impl_SquaresOf_ev lv b c r hc hr) ?_
  simp only [impl_LevelSquares_eq, Option.bind_some, impl_within_eq, decide_eq_true_eq]
  refine Ev.const ?_
  split
  · congr 1; rw [decide_eq_decide]; omega
  · congr 1; symm; rw [decide_eq_false_iff_not]; omega
-- szIntS
theorem laws_szIntS_eq (l : List Int) (n : Int) (h0 : 0 ≤ n) (h1 : n ≤ 1048576) (hl : l.length ≤ 9223372036854775807) : laws_szIntS.f l n = some (if n < l.length then -1 else n - l.length) := by
  unfold laws_szIntS.f
  rw [w64 (by omega) (by omega)]
  split
  · rw [if_pos (by omega)]
  · rw [if_neg (by omega)]
-- counts
def cnt (n : Int) : Bool := decide (0 ≤ n ∧ n ≤ 1000000000)
-- spec l23Count
theorem spec_l23Count_eq (n : Int) : spec_l23Count.f n = some (cnt n) := by
  unfold spec_l23Count.f cnt
  rw [spec_l01In_eq]; rfl
-- ParOk
def parOk (q : Int) (l e : Bool) : Bool := decide (0 ≤ q ∧ q ≤ 40) && !(l && e)
-- ParOk impl
theorem impl_ParOk_eq (q : Int) (l e c : Bool) : impl_ParOk.f q l e c = some (parOk q l e) := by
  unfold impl_ParOk.f parOk
  simp only [impl_within_eq, Option.bind_some]
  cases decide (0 ≤ q ∧ q ≤ 40) <;> cases l <;> cases e <;> rfl
-- ParOk spec
theorem spec_ParOk_eq (q : Int) (l e c : Bool) : spec_ParOk.f q l e c = some (parOk q l e) := by
  unfold spec_ParOk.f parOk
  simp only [spec_l01In_eq, Option.bind_some]
  cases decide (0 ≤ q ∧ q ≤ 40) <;> cases l <;> cases e <;> rfl
-- TilesOf
def tilesOf (lv b : Int) (c r : List Int) : Int := if seqOk lv b c r = true then (c.length : Int) * r.length else 0
theorem seqOk_sides {lv b : Int} {c r : List Int} (h : seqOk lv b c r = true) : sideOk c = true ∧ sideOk r = true ∧ 3 ≤ b ∧ b ≤ 8 := by
  simp only [seqOk, decide_eq_true_eq] at h
  have hs : squares c r ≠ 0 := by omega
  unfold squares sumIf at hs
  refine ⟨?_, ?_, h.2.2.1, h.2.2.2⟩
  · refine Classical.byContradiction fun hn => hs ?_
    rw [if_neg hn]; simp
  · refine Classical.byContradiction fun hn => hs ?_
    rw [if_neg (c := sideOk r = true) hn]; simp
theorem tiles_bounds {lv b : Int} {c r : List Int} (h : seqOk lv b c r = true) : 1 ≤ (c.length : Int) * r.length ∧ (c.length : Int) * r.length ≤ 16 := by
  have hs := seqOk_sides h
  have h1 := sideOk_bounds hs.1
  have h2 := sideOk_bounds hs.2.1
  have e : ((c.length * r.length : Nat) : Int) = (c.length : Int) * r.length := Int.natCast_mul _ _
  have := Nat.mul_le_mul h1.2.1 h2.2.1
  have := Nat.mul_le_mul h1.1 h2.1
  omega
-- TilesOf impl
theorem impl_TilesOf_ev (lv b : Int) (c r : List Int) (hc : c.length ≤ 9223372036854775806) (hr : r.length ≤ 9223372036854775806) : Ev (fun k => impl_TilesOf.f k lv b c r) (tilesOf lv b c r) := by
  unfold impl_TilesOf.f tilesOf
  refine Ev.bind (impl_SeqOk_ev lv b c r hc hr) ?_
  split
  · rename_i h
    have := tiles_bounds h
    rw [w64 (by omega) (by omega)]; exact Ev.some _
  · exact Ev.some _
-- TilesOf spec
theorem spec_TilesOf_ev (lv b : Int) (c r : List Int) : Ev (fun k => spec_TilesOf.f k lv b c r) (tilesOf lv b c r) := by
  unfold spec_TilesOf.f tilesOf
  refine Ev.bind (spec_SeqOk_ev lv b c r) ?_
  split
  · rename_i h
    have := tiles_bounds h
    rw [w64 (by omega) (by omega)]; exact Ev.some _
  · exact Ev.some _
-- isNoSeq
def isNoSeq (lv b : Int) (c r : List Int) : Bool := decide (lv = 0 ∧ b = 0 ∧ c.length = 0 ∧ r.length = 0)
-- isNoSeq impl
theorem impl_isNoSeq_eq (lv b : Int) (c r : List Int) : impl_isNoSeq.f lv b c r = some (isNoSeq lv b c r) := by
  unfold impl_isNoSeq.f isNoSeq
  have e : ((r.length : Int) == 0) = decide (r.length = 0) := by rw [Bool.eq_iff_iff]; simp
  rw [e]
  repeat' split
  all_goals first | (simp_all; done) | (simp_all; rfl)
-- shifts
theorem shl_bits {b : Int} (h0 : 3 ≤ b) (h1 : b ≤ 8) : shl .i64 1 b = 2 ^ b.toNat ∧ 8 ≤ shl .i64 1 b ∧ shl .i64 1 b ≤ 256 ∧ IntKind.u64.wrap b = b := by
  obtain rfl | rfl | rfl | rfl | rfl | rfl : b = 3 ∨ b = 4 ∨ b = 5 ∨ b = 6 ∨ b = 7 ∨ b = 8 := by omega
  all_goals decide +kernel
-- AdmitOk value
def admitOk (has live : Bool) (lv b : Int) (c r : List Int) (q : Int) (l e cf : Bool) (f n g : Int) : Bool :=
  cnt n && cnt g && (if has = true then decide (tilesOf lv b c r = 1) && parOk q l e && decide (0 ≤ f ∧ f < shl .i64 1 b) else !live && isNoSeq lv b c r && (q == 0 && (!l && (!e && !cf))) && f == 0)
theorem tilesOf_one {lv b : Int} {c r : List Int} (h : tilesOf lv b c r = 1) : seqOk lv b c r = true ∧ 3 ≤ b ∧ b ≤ 8 := by
  unfold tilesOf at h
  split at h
  · rename_i hs
    exact ⟨hs, (seqOk_sides hs).2.2⟩
  · omega
-- AdmitOk impl
theorem impl_AdmitOk_ev (has live : Bool) (lv b : Int) (c r : List Int) (q : Int) (l e cf : Bool) (f n g : Int) (hc : c.length ≤ 9223372036854775806) (hr : r.length ≤ 9223372036854775806) : Ev (fun k => impl_AdmitOk.f k has live lv b c r q l e cf f n g) (admitOk has live lv b c r q l e cf f n g) := by
  unfold impl_AdmitOk.f admitOk
  simp only [impl_within_eq, Option.bind_some]
  rw [show decide (0 ≤ n ∧ n ≤ 1000000000) = cnt n from rfl, show decide (0 ≤ g ∧ g ≤ 1000000000) = cnt g from rfl]
  cases cnt n
  · simp only [Bool.false_eq_true, if_false, Bool.false_and]
    exact Ev.step (fun k => by rw [impl_AdmitOk.j0, if_pos rfl]) (Ev.some _)
  · simp only [if_true, Bool.true_and]
    cases cnt g
    · simp only [Bool.not_false, Bool.false_and]
      exact Ev.step (fun k => by rw [impl_AdmitOk.j0, if_pos rfl]) (Ev.some _)
    · simp only [Bool.not_true, Bool.true_and]
      refine Ev.step (fun k => by rw [impl_AdmitOk.j0, if_neg (by decide)]) ?_
      cases has
      · simp only [Bool.false_eq_true, if_false]
        cases live
        · simp only [Bool.false_eq_true, if_false, impl_isNoSeq_eq, Option.bind_some]
          refine Ev.const ?_
          cases isNoSeq lv b c r <;> cases (q == 0 && (!l && (!e && !cf))) <;> rfl
        · simpa using Ev.some false
      · simp only [if_true]
        refine Ev.bind (impl_TilesOf_ev lv b c r hc hr) ?_
        refine Ev.ite (fun h1 => ?_) (fun h1 => ?_)
        · have hb := tilesOf_one h1
          have hs := shl_bits hb.2.1 hb.2.2
          simp only [impl_ParOk_eq, Option.bind_some, if_pos (show 0 ≤ b by omega), impl_within_eq, h1, decide_true, Bool.true_and]
          rw [w64 (by omega) (by omega)]
          refine Ev.const ?_
          cases parOk q l e
          · rfl
          · simp only [if_true, Bool.true_and]
            congr 1; rw [decide_eq_decide]; omega
        · simpa [h1] using Ev.some false
-- AdmitOk spec
theorem spec_AdmitOk_ev (has live : Bool) (lv b : Int) (c r : List Int) (q : Int) (l e cf : Bool) (f n g : Int) : Ev (fun k => spec_AdmitOk.f k has live lv b c r q l e cf f n g) (admitOk has live lv b c r q l e cf f n g) := by
  unfold spec_AdmitOk.f admitOk
  simp only [spec_l23Count_eq, Option.bind_some]
  cases cnt n
  · simp only [Bool.false_eq_true, if_false, Bool.false_and]
    exact Ev.step (fun k => by rw [spec_AdmitOk.j0, if_pos rfl]) (Ev.some _)
  · simp only [if_true, Bool.true_and]
    cases cnt g
    · simp only [Bool.not_false, Bool.false_and]
      exact Ev.step (fun k => by rw [spec_AdmitOk.j0, if_pos rfl]) (Ev.some _)
    · simp only [Bool.not_true, Bool.true_and]
      refine Ev.step (fun k => by rw [spec_AdmitOk.j0, if_neg (by decide)]) ?_
      cases has
      · simp only [Bool.false_eq_true, if_false]
        cases live
        · simp only [Bool.false_eq_true, if_false]
          refine Ev.const ?_
          unfold isNoSeq
          generalize (q == 0 && (!l && (!e && !cf))) = z
          repeat' split
          all_goals simp_all
        · simpa using Ev.some false
      · simp only [if_true]
        refine Ev.bind (spec_TilesOf_ev lv b c r) ?_
        refine Ev.ite (fun h1 => ?_) (fun h1 => ?_)
        · have hb := tilesOf_one h1
          have hs := shl_bits hb.2.1 hb.2.2
          simp only [spec_ParOk_eq, Option.bind_some, h1, decide_true, Bool.true_and, hs.2.2.2, if_pos (show 0 ≤ b by omega)]
          refine Ev.const ?_
          cases parOk q l e
          · rfl
          · simp only [if_true, Bool.true_and]
            split
            · rename_i h; congr 1; rw [decide_eq_decide]; omega
            · congr 1; symm; rw [decide_eq_false_iff_not]; omega
        · simpa [h1] using Ev.some false
-- szSeq
theorem laws_szSeq_eq (lv b : Int) (c r : List Int) (n : Int) (h0 : 0 ≤ n) (h1 : n ≤ 1048576) (hc : c.length ≤ 9223372036854775807) (hr : r.length ≤ 9223372036854775807) : ∃ t, laws_szSeq.f lv b c r n = some t ∧ (0 ≤ t → (c.length : Int) + r.length ≤ n) ∧ t ≤ n ∧ -1 ≤ t := by
  unfold laws_szSeq.f
  rw [laws_szIntS_eq _ _ h0 h1 hc]
  simp only [Option.bind_some]
  by_cases hx : n < c.length
  · exact ⟨-1, by rw [if_pos hx]; rfl, by omega, by omega, by omega⟩
  · rw [if_neg hx, if_neg (by omega), laws_szIntS_eq _ _ (by omega) (by omega) hr]
    simp only [Option.bind_some]
    by_cases hy : n - c.length < r.length
    · exact ⟨-1, by rw [if_pos hy]; rfl, by omega, by omega, by omega⟩
    · exact ⟨n - c.length - r.length, by rw [if_neg hy, if_neg (by omega)], by omega, by omega, by omega⟩
-- toSeq, eqSeq, eqPar
theorem laws_toSeq_ev (lv b : Int) (c r : List Int) (hc : c.length ≤ 35184372088832) (hr : r.length ≤ 35184372088832) : Ev (fun k => laws_toSeq.f k lv b c r) (lv, b, c, r) := by
  unfold laws_toSeq.f
  exact Ev.bind (laws_toIntS_ev c hc) (Ev.bind (laws_toIntS_ev r hr) (Ev.some _))
theorem laws_eqSeq_self (lv b : Int) (c r : List Int) (hc : c.length ≤ 35184372088832) (hr : r.length ≤ 35184372088832) : Ev (fun k => laws_eqSeq.f k lv b c r lv b c r) true := by
  unfold laws_eqSeq.f
  simp only [if_true]
  refine Ev.bind (laws_eqIntS_ev c c (by omega)) ?_
  simp only [decide_true, if_true]
  refine Ev.bind (laws_eqIntS_ev r r (by omega)) ?_
  simp only [decide_true, if_true]
  exact Ev.some _
theorem laws_eqPar_self (q : Int) (l e c : Bool) : laws_eqPar.f q l e c q l e c = some true := by simp [laws_eqPar.f]
-- toAdmit, eqAdmit, szAdmit
theorem laws_toAdmit_ev (has live : Bool) (lv b : Int) (c r : List Int) (q : Int) (l e cf : Bool) (f n g : Int) (hc : c.length ≤ 35184372088832) (hr : r.length ≤ 35184372088832) : Ev (fun k => laws_toAdmit.f k has live lv b c r q l e cf f n g) (has, live, lv, b, c, r, q, l, e, cf, f, n, g) := by
  unfold laws_toAdmit.f laws_toPar.f
  exact Ev.bind (laws_toSeq_ev lv b c r hc hr) (Ev.some _)
theorem laws_eqAdmit_self (has live : Bool) (lv b : Int) (c r : List Int) (q : Int) (l e cf : Bool) (f n g : Int) (hc : c.length ≤ 35184372088832) (hr : r.length ≤ 35184372088832) : Ev (fun k => laws_eqAdmit.f k has live lv b c r q l e cf f n g has live lv b c r q l e cf f n g) true := by
  unfold laws_eqAdmit.f
  simp only [bne_self_eq_false, Bool.false_eq_true, if_false, if_true, laws_eqPar_self, Option.bind_some]
  exact Ev.bind (laws_eqSeq_self lv b c r hc hr) (by simp only [if_true]; exact Ev.some _)
theorem laws_szAdmit_eq (has live : Bool) (lv b : Int) (c r : List Int) (q : Int) (l e cf : Bool) (f n g : Int) (hc : c.length ≤ 9223372036854775807) (hr : r.length ≤ 9223372036854775807) : ∃ t, laws_szAdmit.f has live lv b c r q l e cf f n g 1048576 = some t ∧ (0 ≤ t → (c.length : Int) + r.length ≤ 1048576) ∧ t ≤ 1048576 := by
  unfold laws_szAdmit.f
  obtain ⟨t, ht, h1, h2, h3⟩ := laws_szSeq_eq lv b c r 1048576 (by omega) (by omega) hc hr
  rw [ht]
  simp only [Option.bind_some]
  by_cases h : t < 0
  · exact ⟨-1, by rw [if_pos h], by omega, by omega⟩
  · exact ⟨t, by rw [if_neg h], h1, h2⟩
-- AdmitLose
theorem spec_l05Copy_eq (lv b : Int) (c r : List Int) (hc : c.length ≤ 1048576) (hr : r.length ≤ 1048576) : spec_l05Copy.f lv b c r = some (lv, b, c, r) := by
  unfold spec_l05Copy.f
  simp only [Option.bind_some, List.length_nil, List.nil_append]
  rw [if_pos (by omega), if_pos (by omega)]
theorem impl_copySeq_eq (lv b : Int) (c r : List Int) (hc : c.length ≤ 1048576) (hr : r.length ≤ 1048576) : impl_copySeq.f lv b c r = some (lv, b, c, r) := by
  unfold impl_copySeq.f impl_copyInts.f
  simp only [Option.bind_some, List.length_nil, List.nil_append]
  rw [if_pos (by omega), if_pos (by omega)]
  rfl
theorem admitOk_gone {has live : Bool} {lv b : Int} {c r : List Int} {q : Int} {l e cf : Bool} {f n g : Int} (h : admitOk has live lv b c r q l e cf f n g = true) : 0 ≤ g ∧ g ≤ 1000000000 := by
  unfold admitOk at h
  simp only [cnt, Bool.and_eq_true, decide_eq_true_eq] at h
  omega
def loseR (ok has live : Bool) (lv b : Int) (c r : List Int) (q : Int) (l e cf : Bool) (f n g : Int) : Bool × Bool × Int × Int × List Int × List Int × Int × Bool × Bool × Bool × Int × Int × Int :=
  (has, (live && !ok), lv, b, c, r, q, l, e, cf, f, n, if ok = true then brought (g + 1) 0 1000000000 else g)
theorem spec_AdmitLose_ev (has live : Bool) (lv b : Int) (c r : List Int) (q : Int) (l e cf : Bool) (f n g : Int) (hc : c.length ≤ 1048576) (hr : r.length ≤ 1048576) : Ev (fun k => spec_AdmitLose.f k has live lv b c r q l e cf f n g) (loseR (admitOk has live lv b c r q l e cf f n g) has live lv b c r q l e cf f n g) := by
  unfold spec_AdmitLose.f
  simp only [spec_l05Copy_eq lv b c r hc hr, Option.bind_some]
  refine Ev.bind (spec_AdmitOk_ev has live lv b c r q l e cf f n g) ?_
  cases h : admitOk has live lv b c r q l e cf f n g
  · simp only [Bool.false_eq_true, if_false, loseR, Bool.not_false, Bool.and_true]
    exact Ev.some _
  · have hg := admitOk_gone h
    simp only [if_true, spec_l24Gone.f, spec_l23More.f]
    rw [w64 (by omega) (by omega)]
    have e1 : Ev (fun k => ((spec_Brought.f k (g + 1) 0 1000000000).bind fun t141 => (some t141)).bind fun t144 => some (has, false, lv, b, c, r, q, l, e, cf, f, n, t144)) (has, false, lv, b, c, r, q, l, e, cf, f, n, brought (g + 1) 0 1000000000) := Ev.bind (Ev.bind (spec_Brought_ev _ _ _) (Ev.some _)) (Ev.some _)
    refine Ev.bind e1 ?_
    simp only [loseR, Bool.not_true, Bool.and_false, if_true]
    exact Ev.some _
theorem impl_AdmitLose_ev (has live : Bool) (lv b : Int) (c r : List Int) (q : Int) (l e cf : Bool) (f n g : Int) (hc : c.length ≤ 1048576) (hr : r.length ≤ 1048576) : Ev (fun k => impl_AdmitLose.f k has live lv b c r q l e cf f n g) (loseR (admitOk has live lv b c r q l e cf f n g) has live lv b c r q l e cf f n g) := by
  unfold impl_AdmitLose.f impl_copyAdmit.f
  simp only [impl_copySeq_eq lv b c r hc hr, Option.bind_some]
  refine Ev.bind (impl_AdmitOk_ev has live lv b c r q l e cf f n g (by omega) (by omega)) ?_
  cases h : admitOk has live lv b c r q l e cf f n g
  · simp only [Bool.false_eq_true, if_false, loseR, Bool.not_false, Bool.and_true]
    exact Ev.some _
  · have hg := admitOk_gone h
    simp only [if_true, impl_counted.f, Option.bind_some]
    rw [w64 (by omega) (by omega)]
    have e1 : mn (g + 1) 1000000000 = brought (g + 1) 0 1000000000 := by unfold mn brought; split <;> split <;> (try split) <;> omega
    simp only [loseR, Bool.not_true, Bool.and_false, if_true, e1]
    exact Ev.some _
-- marks
def mkL (v : Int) (n : Nat) : List Int := (List.range n).map fun j => v + ((j : Nat) : Int)
theorem mkL_length (v : Int) (n : Nat) : (mkL v n).length = n := by simp [mkL]
theorem mkL_succ (v : Int) (n : Nat) : mkL v (n + 1) = mkL v n ++ [v + (n : Int)] := by simp [mkL, List.range_succ]
theorem mkL_rd (v : Int) (n i : Nat) (h : i < n) : rd (mkL v n) i = v + i := by
  simp [rd, mkL, List.getD_eq_getElem?_getD, h]
theorem laws_markIntS_ev (l : List Int) (v : Int) (h0 : 0 ≤ v) (h1 : v + l.length ≤ 4611686018427387904) : Ev (fun k => laws_markIntS.f k l v) (v + l.length, mkL v l.length) := by
  unfold laws_markIntS.f
  have key : ∀ i, i ≤ l.length → Ev (fun k => laws_markIntS.l0 k (mkL v i ++ l.drop i) (v + i) i) (v + l.length, mkL v l.length) := by
    refine down_to _ ?_ ?_
    · refine Ev.step (f := fun _ => some (v + (l.length : Int), mkL v l.length)) (fun k => by rw [laws_markIntS.l0, if_neg (by simp [mkL_length])]; simp) (Ev.some _)
    · intro i hi ih
      have hl : (mkL v i ++ l.drop i).length = l.length := by rw [List.length_append, mkL_length, List.length_drop]; omega
      have hs : (mkL v i ++ l.drop i).set i (v + i) = mkL v (i + 1) ++ l.drop (i + 1) := by
        rw [List.set_append_right _ _ (by rw [mkL_length]; omega), mkL_length, Nat.sub_self, List.drop_eq_getElem_cons hi, List.set_cons_zero, mkL_succ]
        simp
      refine Ev.step (fun k => by rw [laws_markIntS.l0, hl, if_pos (by omega), if_pos (by omega), Int.toNat_natCast, hs, w64 (e := v + i + 1) (by omega) (by omega), w64_succ hi (by omega)]) ?_
      rw [show v + (i : Int) + 1 = v + ((i + 1 : Nat) : Int) by omega]
      exact ih
  simpa [mkL] using key 0 (by omega)
theorem laws_heldIntS_ev (n : Nat) (v : Int) (h0 : 0 ≤ v) (h1 : v + n ≤ 4611686018427387904) : Ev (fun k => laws_heldIntS.f k (mkL v n) v) (v + n) := by
  unfold laws_heldIntS.f
  have key : ∀ i, i ≤ n → Ev (fun k => laws_heldIntS.l0 k (mkL v n) (v + i) i) (v + n) := by
    refine down_to _ ?_ ?_
    · refine Ev.step (f := fun _ => some (v + (n : Int))) (fun k => by rw [laws_heldIntS.l0, mkL_length, if_neg (by omega)]) (Ev.some _)
    · intro i hi ih
      refine Ev.step (fun k => by rw [laws_heldIntS.l0, mkL_length, if_pos (by omega), if_pos (by omega), mkL_rd v n i hi, if_pos rfl, w64 (e := v + i + 1) (by omega) (by omega), w64_succ hi (by omega)]) ?_
      rw [show v + (i : Int) + 1 = v + ((i + 1 : Nat) : Int) by omega]
      exact ih
  simpa using key 0 (by omega)
theorem laws_markSeq_ev (lv b : Int) (c r : List Int) (hc : c.length ≤ 1048576) (hr : r.length ≤ 1048576) : Ev (fun k => laws_markSeq.f k lv b c r 1) (1 + (c.length : Int) + r.length, mkL 1 c.length, mkL (1 + c.length) r.length) := by
  unfold laws_markSeq.f
  exact Ev.bind (laws_markIntS_ev c 1 (by omega) (by omega)) (Ev.bind (laws_markIntS_ev r (1 + c.length) (by omega) (by omega)) (Ev.some _))
theorem laws_heldSeq_ev (lv b : Int) (n m : Nat) (hn : n ≤ 1048576) (hm : m ≤ 1048576) : Ev (fun k => laws_heldSeq.f k lv b (mkL 1 n) (mkL (1 + n) m) 1) (1 + (n : Int) + m) := by
  unfold laws_heldSeq.f
  refine Ev.bind (laws_heldIntS_ev n 1 (by omega) (by omega)) (Ev.neg (by omega) ?_)
  refine Ev.bind (laws_heldIntS_ev m (1 + n) (by omega) (by omega)) (Ev.neg (by omega) ?_)
  exact Ev.some _
-- LAW FnExactAdmitLose
theorem FnExactAdmitLose (a0_0 a0_1 : Bool) (a0_2 a0_3 : Int) (l0_4 l0_5 : List Int) (a0_6 : Int) (a0_7 a0_8 a0_9 : Bool) (a0_10 a0_11 a0_12 : Int) (m0_4 : l0_4.length ≤ maxLen) (m0_5 : l0_5.length ≤ maxLen) :
    ∃ k, laws_FnExactAdmitLose.f k a0_0 a0_1 a0_2 a0_3 l0_4 l0_5 a0_6 a0_7 a0_8 a0_9 a0_10 a0_11 a0_12 = some true := by
  refine Ev.rounds (g := fun k => laws_FnExactAdmitLose.f k a0_0 a0_1 a0_2 a0_3 l0_4 l0_5 a0_6 a0_7 a0_8 a0_9 a0_10 a0_11 a0_12) ?_
  unfold laws_FnExactAdmitLose.f
  obtain ⟨t, ht, h1, h2⟩ := laws_szAdmit_eq a0_0 a0_1 a0_2 a0_3 l0_4 l0_5 a0_6 a0_7 a0_8 a0_9 a0_10 a0_11 a0_12 m0_4 m0_5
  rw [ht]
  simp only [Option.bind_some]
  refine Ev.ite (fun _ => Ev.some _) (fun h => ?_)
  have h3 := h1 (by omega)
  have hq := laws_toAdmit_ev a0_0 a0_1 a0_2 a0_3 l0_4 l0_5 a0_6 a0_7 a0_8 a0_9 a0_10 a0_11 a0_12 (by omega) (by omega)
  have e1 := spec_AdmitLose_ev a0_0 a0_1 a0_2 a0_3 l0_4 l0_5 a0_6 a0_7 a0_8 a0_9 a0_10 a0_11 a0_12 (by omega) (by omega)
  have e2 := impl_AdmitLose_ev a0_0 a0_1 a0_2 a0_3 l0_4 l0_5 a0_6 a0_7 a0_8 a0_9 a0_10 a0_11 a0_12 (by omega) (by omega)
  have e3 := laws_eqAdmit_self a0_0 a0_1 a0_2 a0_3 l0_4 l0_5 a0_6 a0_7 a0_8 a0_9 a0_10 a0_11 a0_12 (by omega) (by omega)
  generalize admitOk a0_0 a0_1 a0_2 a0_3 l0_4 l0_5 a0_6 a0_7 a0_8 a0_9 a0_10 a0_11 a0_12 = ok at e1 e2
  unfold loseR at e1 e2
  generalize (a0_1 && !ok) = lv at e1 e2
  generalize (if ok = true then brought (a0_12 + 1) 0 1000000000 else a0_12) = gn at e1 e2
  have e4 := laws_eqAdmit_self a0_0 lv a0_2 a0_3 l0_4 l0_5 a0_6 a0_7 a0_8 a0_9 a0_10 a0_11 gn (by omega) (by omega)
  have mk := laws_markSeq_ev a0_2 a0_3 l0_4 l0_5 (by omega) (by omega)
  have hd := laws_heldSeq_ev a0_2 a0_3 l0_4.length l0_5.length (by omega) (by omega)
  have mk1 : Ev (fun k => laws_markAdmit.f k a0_0 a0_1 a0_2 a0_3 l0_4 l0_5 a0_6 a0_7 a0_8 a0_9 a0_10 a0_11 a0_12 1) (1 + (l0_4.length : Int) + l0_5.length, mkL 1 l0_4.length, mkL (1 + l0_4.length) l0_5.length) := by
    unfold laws_markAdmit.f
    exact Ev.bind mk (Ev.some _)
  have mk2 : Ev (fun k => laws_markAdmit.f k a0_0 lv a0_2 a0_3 l0_4 l0_5 a0_6 a0_7 a0_8 a0_9 a0_10 a0_11 gn 1) (1 + (l0_4.length : Int) + l0_5.length, mkL 1 l0_4.length, mkL (1 + l0_4.length) l0_5.length) := by
    unfold laws_markAdmit.f
    exact Ev.bind mk (Ev.some _)
  have hd2 : Ev (fun k => laws_heldAdmit.f k a0_0 lv a0_2 a0_3 (mkL 1 l0_4.length) (mkL (1 + l0_4.length) l0_5.length) a0_6 a0_7 a0_8 a0_9 a0_10 a0_11 gn 1) (1 + (l0_4.length : Int) + l0_5.length) := by
    unfold laws_heldAdmit.f
    exact Ev.bind hd (Ev.neg (by omega) (Ev.some _))
  refine Ev.bind hq (Ev.bind e1 (Ev.bind hq (Ev.bind e2 (Ev.bind e4 ?_))))
  simp only [if_true]
  refine Ev.bind hq (Ev.bind e3 ?_)
  simp only [if_true]
  refine Ev.bind mk1 (Ev.neg (by omega) (Ev.bind e4 ?_))
  simp only [Bool.not_true]
  refine Ev.step (fun k => by rw [laws_FnExactAdmitLose.j0, if_neg (by decide)]) ?_
  refine Ev.bind mk2 (Ev.bind hd2 (Ev.neg (by omega) (Ev.pos rfl (Ev.bind hq (Ev.bind e2 (Ev.bind e4 ?_))))))
  simp only [if_true]
  exact Ev.bind hd2 (Ev.neg (by omega) (Ev.pos rfl (Ev.some _)))

end Go.Proofs.Ythgoneamhlcmbaa.Pure
