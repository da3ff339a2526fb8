/- The pure statement of the law FnExactKeyDue: over numbers and lists alone, the printed function answers true. Conditions: none beyond the sizes of what a machine holds. -/
import Derived.Test.YtlfbcmhjopichaaQFnExactKeyDuex10
import Derived.Laws.BitsLemmas
namespace Go.Proofs.Ytlfbcmhjopichaa.Pure
open Go.RowKit Go.Proofs.Ytlfbcmhjopichaa.QFnExactKeyDue Go.Proofs.YtlfbcmhjopichaaW.PrintWords Go.Proofs.YtlfbcmhjopichaaW.PrintLast Go.Proofs.YtlfbcmhjopichaaW.PrintMore
set_option linter.unusedVariables false
set_option linter.unusedSimpArgs false

-- base: whole numbers
theorem wf64 {n : Int} (h : (Lit.int .i64 n).wf = true) : -9223372036854775808 ≤ n ∧ n ≤ 9223372036854775807 := by
  simp [Lit.wf, IntKind.min, IntKind.max, IntKind.signed, IntKind.bits] at h
  omega
theorem w64 {e : Int} (h1 : -9223372036854775808 ≤ e) (h2 : e ≤ 9223372036854775807) : wrap64 e = e := by unfold wrap64; omega
theorem tmod_pos {a b : Int} (h : 0 ≤ a) : Int.tmod a b = a % b := Int.tmod_eq_emod_of_nonneg h
theorem tdiv_pos {a b : Int} (h : 0 ≤ a) : Int.tdiv a b = a / b := Int.tdiv_eq_ediv_of_nonneg h
theorem w64_wf (e : Int) : -9223372036854775808 ≤ wrap64 e ∧ wrap64 e ≤ 9223372036854775807 := by unfold wrap64; omega
-- base: rounds
theorem Ev.mk_ {α : Type} {g : Nat → Option α} {r : α} (K : Nat) (h : ∀ k, K ≤ k → g k = some r) : Ev g r := ⟨K, h⟩
theorem Ev.succ {α : Type} {g : Nat → Option α} {r : α} (h : ∀ k, g (k + 1) = some r) : Ev g r := ⟨1, fun k hk => by obtain ⟨m, rfl⟩ : ∃ m, k = m + 1 := ⟨k - 1, by omega⟩; exact h m⟩
theorem Ev.some {α : Type} (r : α) : Ev (fun _ => Option.some r) r := ⟨0, fun _ _ => rfl⟩
theorem Ev.const {α : Type} {o : Option α} {r : α} (h : o = Option.some r) : Ev (fun _ => o) r := ⟨0, fun _ _ => h⟩
theorem Ev.ite {α : Type} {c : Prop} [Decidable c] {g f : Nat → Option α} {r : α} (h1 : c → Ev g r) (h2 : ¬ c → Ev f r) : Ev (fun k => if c then g k else f k) r := by
  by_cases h : c
  · simpa only [if_pos h] using h1 h
  · simpa only [if_neg h] using h2 h
theorem Ev.pos {α : Type} {c : Prop} [Decidable c] {g f : Nat → Option α} {r : α} (hc : c) (h : Ev g r) : Ev (fun k => if c then g k else f k) r := by
  simpa only [if_pos hc] using h
theorem Ev.neg {α : Type} {c : Prop} [Decidable c] {g f : Nat → Option α} {r : α} (hc : ¬ c) (h : Ev f r) : Ev (fun k => if c then g k else f k) r := by
  simpa only [if_neg hc] using h
theorem Ev.bindc {α β : Type} {o : Option α} {f : Nat → α → Option β} {a : α} {r : β} (h : o = Option.some a) (k : Ev (fun n => f n a) r) : Ev (fun n => o.bind (f n)) r := by
  subst h; exact k
-- within
theorem impl_within_eq (a b c : Int) : impl_within.f a b c = some (decide (b ≤ a ∧ a ≤ c)) := by
  unfold impl_within.f
  by_cases h : a ≥ b
  · rw [if_pos h]; simp [show b ≤ a from h]
  · rw [if_neg h]; simp; omega
-- l01In
theorem spec_l01In_eq (a b c : Int) : spec_l01In.f a b c = some (decide (b ≤ a ∧ a ≤ c)) := by
  unfold spec_l01In.f
  by_cases h : a ≥ b
  · rw [if_pos h]; simp [show b ≤ a from h]
  · rw [if_neg h]; simp; omega
-- RateOk value
def rateOk (q t d : Int) : Bool := decide (0 ≤ q ∧ q ≤ 40 ∧ 1 ≤ t ∧ t ≤ 100000 ∧ -8 * t ≤ d ∧ d ≤ 8 * t)
theorem rateOk_iff (q t d : Int) : rateOk q t d = true ↔ 0 ≤ q ∧ q ≤ 40 ∧ 1 ≤ t ∧ t ≤ 100000 ∧ -8 * t ≤ d ∧ d ≤ 8 * t := by simp [rateOk]
-- RateOk impl
theorem impl_RateOk_eq (q t d : Int) : impl_RateOk.f q t d = some (rateOk q t d) := by
  unfold impl_RateOk.f rateOk
  simp only [impl_within_eq, Option.bind_some, decide_eq_true_eq]
  by_cases h1 : 0 ≤ q ∧ q ≤ 40
  · rw [if_pos h1]
    by_cases h2 : 1 ≤ t ∧ t ≤ 100000
    · rw [if_pos h2, w64 (by omega) (by omega), w64 (by omega) (by omega)]
      simp only [h1.1, h1.2, h2.1, h2.2, true_and]
    · rw [if_neg h2]; congr 1; symm; rw [decide_eq_false_iff_not]; exact fun h => h2 ⟨h.2.2.1, h.2.2.2.1⟩
  · rw [if_neg h1]; congr 1; symm; rw [decide_eq_false_iff_not]; exact fun h => h1 ⟨h.1, h.2.1⟩
-- RateOk spec
theorem spec_RateOk_eq (q t d : Int) : spec_RateOk.f q t d = some (rateOk q t d) := by
  unfold spec_RateOk.f rateOk
  simp only [spec_l01In_eq, Option.bind_some, decide_eq_true_eq]
  by_cases h1 : 0 ≤ q ∧ q ≤ 40
  · rw [if_pos h1]
    by_cases h2 : 1 ≤ t ∧ t ≤ 100000
    · rw [if_pos h2, w64 (by omega) (by omega), w64 (by omega) (by omega)]
      simp only [h1.1, h1.2, h2.1, h2.2, true_and]
    · rw [if_neg h2]; congr 1; symm; rw [decide_eq_false_iff_not]; exact fun h => h2 ⟨h.2.2.1, h.2.2.2.1⟩
  · rw [if_neg h1]; congr 1; symm; rw [decide_eq_false_iff_not]; exact fun h => h1 ⟨h.1, h.2.1⟩
-- lists: rd and drop
theorem rd_drop (l : List Int) (i : Nat) (h : i < l.length) : l.drop i = rd l i :: l.drop (i + 1) := by
  rw [List.drop_eq_getElem_cons h]
  congr 1
  simp [rd, List.getD_eq_getElem?_getD, List.getElem?_eq_getElem h]
theorem w64_succ {i n : Nat} (h : i < n) (hn : n ≤ 9223372036854775807) : wrap64 ((i : Int) + 1) = ((i + 1 : Nat) : Int) := by
  rw [w64 (by omega) (by omega)]; omega
-- toIntS
theorem laws_toIntS_loop (l : List Int) (hl : l.length ≤ 9223372036854775806) : ∀ (d i : Nat) (o : List Int) (k : Nat), l.length - i = d → i ≤ l.length → o.length = l.length → d < k →
    laws_toIntS.l0 k l o i = some (o.take i ++ l.drop i) := by
  intro d
  induction d with
  | zero =>
    intro i o k hd hi ho hk
    obtain ⟨k, rfl⟩ : ∃ m, k = m + 1 := ⟨k - 1, by omega⟩
    simp only [laws_toIntS.l0]
    rw [if_neg (by omega), List.drop_eq_nil_of_le (by omega), List.take_of_length_le (by omega), List.append_nil]
  | succ d ih =>
    intro i o k hd hi ho hk
    obtain ⟨k, rfl⟩ : ∃ m, k = m + 1 := ⟨k - 1, by omega⟩
    simp only [laws_toIntS.l0]
    rw [if_pos (by omega), if_pos (by omega), if_pos (by omega), w64_succ (n := l.length) (by omega) (by omega), ih (i + 1) _ k (by omega) (by omega) (by simpa using ho) (by omega), rd_drop l i (by omega)]
    congr 1
    rw [show ((i : Int)).toNat = i from by omega, List.take_succ_eq_append_getElem (by simp; omega)]
    simp [List.take_set_of_le]
theorem laws_toIntS_ev (l : List Int) (hl : l.length ≤ 35184372088832) : Ev (fun k => laws_toIntS.f k l) l := by
  refine ⟨l.length + 1, fun k hk => ?_⟩
  show laws_toIntS.f k l = some l
  unfold laws_toIntS.f
  rw [if_pos (by omega), if_pos (by omega)]
  have := laws_toIntS_loop l (by omega) l.length 0 (List.replicate ((l.length : Int) : Int).toNat 0) k (by omega) (by omega) (by simp) (by omega)
  simpa using this
-- eqIntS
theorem laws_eqIntS_loop (l m : List Int) (hl : l.length ≤ 9223372036854775806) (hm : m.length = l.length) : ∀ (d i : Nat) (k : Nat), l.length - i = d → i ≤ l.length → d < k →
    laws_eqIntS.l0 k l m i = some (decide (l.drop i = m.drop i)) := by
  intro d
  induction d with
  | zero =>
    intro i k hd hi hk
    obtain ⟨k, rfl⟩ : ∃ m, k = m + 1 := ⟨k - 1, by omega⟩
    simp only [laws_eqIntS.l0]
    rw [if_neg (by omega), List.drop_eq_nil_of_le (by omega), List.drop_eq_nil_of_le (by omega)]; rfl
  | succ d ih =>
    intro i k hd hi hk
    obtain ⟨k, rfl⟩ : ∃ m, k = m + 1 := ⟨k - 1, by omega⟩
    simp only [laws_eqIntS.l0]
    rw [if_pos (by omega), if_pos (by omega), if_pos (by omega), w64_succ (n := l.length) (by omega) (by omega), ih (i + 1) k (by omega) (by omega) (by omega), rd_drop l i (by omega), rd_drop m i (by omega)]
    by_cases h : rd l i = rd m i
    · rw [if_pos h, h]; simp
    · rw [if_neg h]; simp [h]
theorem laws_eqIntS_ev (l m : List Int) (hl : l.length ≤ 9223372036854775806) : Ev (fun k => laws_eqIntS.f k l m) (decide (l = m)) := by
  unfold laws_eqIntS.f
  by_cases h : l.length = m.length
  · simp only [if_pos (show (l.length : Int) = m.length by omega)]
    exact ⟨l.length + 1, fun k hk => by simpa using laws_eqIntS_loop l m hl h.symm l.length 0 k (by omega) (by omega) (by omega)⟩
  · simp only [if_neg (show ¬ (l.length : Int) = m.length by omega)]
    refine Ev.const ?_
    congr 1; symm; rw [decide_eq_false_iff_not]; rintro rfl; exact h rfl
-- rd of a list
theorem rd_mem (l : List Int) (i : Nat) (h : i < l.length) : rd l i ∈ l := by
  simp [rd, List.getD_eq_getElem?_getD, List.getElem?_eq_getElem h]
-- downwards
theorem down_to {P : Nat → Prop} (n : Nat) (h0 : P n) (hs : ∀ i, i < n → P (i + 1) → P i) : ∀ i, i ≤ n → P i := by
  have key : ∀ d i, n - i = d → i ≤ n → P i := by
    intro d
    induction d with
    | zero => intro i hd hi; obtain rfl : i = n := by omega
              exact h0
    | succ d ih => intro i hd hi; exact hs i (by omega) (ih (i + 1) (by omega) (by omega))
  exact fun i hi => key (n - i) i rfl hi
-- sums
def isum : List Int → Int
  | [] => 0
  | x :: r => x + isum r
def okSide (x : Int) : Bool := decide (1 ≤ x ∧ x ≤ 8)
def sideOk (l : List Int) : Bool := decide (1 ≤ l.length ∧ l.length ≤ 4) && l.all okSide
theorem isum_bounds (l : List Int) (h : l.all okSide = true) : (l.length : Int) ≤ isum l ∧ isum l ≤ 8 * l.length := by
  induction l with
  | nil => simp [isum]
  | cons x r ih =>
    simp only [List.all_cons, Bool.and_eq_true, okSide, decide_eq_true_eq] at h
    have := ih h.2
    simp only [isum, List.length_cons]
    omega
theorem sideOk_bounds {l : List Int} (h : sideOk l = true) : 1 ≤ l.length ∧ l.length ≤ 4 ∧ (l.length : Int) ≤ isum l ∧ isum l ≤ 8 * l.length ∧ l.all okSide = true := by
  simp only [sideOk, Bool.and_eq_true, decide_eq_true_eq] at h
  have := isum_bounds l h.2
  exact ⟨h.1.1, h.1.2, this.1, this.2, h.2⟩
def sumIf (l : List Int) : Int := if sideOk l = true then isum l else 0
theorem sumIf_bounds (l : List Int) : 0 ≤ sumIf l ∧ sumIf l ≤ 32 := by
  unfold sumIf
  split
  · rename_i h
    have := sideOk_bounds h
    omega
  · omega
def squares (c r : List Int) : Int := sumIf c * sumIf r
theorem squares_bounds (c r : List Int) : 0 ≤ squares c r ∧ squares c r ≤ 1024 := by
  have h1 := sumIf_bounds c
  have h2 := sumIf_bounds r
  unfold squares
  constructor
  · exact Int.mul_nonneg h1.1 h2.1
  · have := Int.mul_le_mul h1.2 h2.2 h2.1 (by omega : (0 : Int) ≤ 32)
    omega
def levelSquares (n : Int) : Int := if n = 1 then 16 else if n = 2 then 64 else if n = 3 then 256 else 0
def seqOk (lv b : Int) (c r : List Int) : Bool := decide (1 ≤ squares c r ∧ squares c r ≤ levelSquares lv ∧ 3 ≤ b ∧ b ≤ 8)
-- spec l05Sum
theorem spec_l05Sum_loop (l : List Int) (hl : l.length ≤ 4) : ∀ i, i ≤ l.length → ∀ a : Int, 0 ≤ a → a ≤ 8 * i → Ev (fun k => spec_l05Sum.l0 k l a i) (if (l.drop i).all okSide = true then a + isum (l.drop i) else 0) := by
  refine down_to _ ?_ ?_
  · intro a h0 h1
    refine Ev.step (f := fun _ => some a) (fun k => by simp only [spec_l05Sum.l0]; rw [if_neg (by omega)]) ?_
    rw [List.drop_eq_nil_of_le (Nat.le_refl _)]
    simpa [isum] using Ev.some a
  · intro i hi ih a h0 h1
    refine Ev.step (fun k => by rw [spec_l05Sum.l0, if_pos (by omega), if_pos (by omega), spec_l01In_eq, Option.bind_some]) ?_
    rw [rd_drop l i hi]
    simp only [decide_eq_true_eq, List.all_cons, Bool.and_eq_true, okSide, isum]
    refine Ev.ite (fun hc => ?_) (fun hc => ?_)
    · rw [w64 (by omega) (by omega), w64_succ hi (by omega)]
      have := ih (a + rd l i) (by omega) (by omega)
      simp only [hc.1, hc.2, and_self, true_and]
      rw [show a + (rd l i + isum (l.drop (i + 1))) = a + rd l i + isum (l.drop (i + 1)) by omega]
      simpa [okSide] using this
    · simpa [hc] using Ev.some (0 : Int)
theorem spec_l05Sum_ev (l : List Int) : Ev (fun k => spec_l05Sum.f k l) (sumIf l) := by
  unfold spec_l05Sum.f sumIf sideOk
  by_cases h1 : l.length < 1
  · simp only [if_pos (show (l.length : Int) < 1 by omega)]
    refine Ev.step (f := fun _ => some 0) (fun k => by simp [spec_l05Sum.j0]) ?_
    simpa [show ¬ 1 ≤ l.length by omega] using Ev.some (0 : Int)
  · simp only [if_neg (show ¬ (l.length : Int) < 1 by omega)]
    by_cases h4 : l.length > 4
    · refine Ev.step (f := fun _ => some 0) (fun k => by simp [spec_l05Sum.j0]; omega) ?_
      simpa [show ¬ l.length ≤ 4 by omega] using Ev.some (0 : Int)
    · refine Ev.step (f := fun k => spec_l05Sum.l0 k l 0 0) (fun k => by simp [spec_l05Sum.j0]; omega) ?_
      have := spec_l05Sum_loop l (by omega) 0 (by omega) 0 (by omega) (by omega)
      simpa [show 1 ≤ l.length by omega, show l.length ≤ 4 by omega] using this
-- spec SquaresOf
theorem spec_SquaresOf_ev (a b : Int) (c r : List Int) : Ev (fun k => spec_SquaresOf.f k a b c r) (squares c r) := by
  unfold spec_SquaresOf.f
  refine Ev.bind (spec_l05Sum_ev c) (Ev.bind (spec_l05Sum_ev r) ?_)
  have h := squares_bounds c r
  unfold squares at h
  rw [w64 (by omega) (by omega)]
  exact Ev.some _
-- spec LevelSquares
theorem spec_LevelSquares_eq (n : Int) : spec_LevelSquares.f n = some (levelSquares n) := by
  unfold spec_LevelSquares.f levelSquares
  repeat' split
  all_goals rfl
-- spec SeqOk
theorem spec_SeqOk_ev (lv b : Int) (c r : List Int) : Ev (fun k => spec_SeqOk.f k lv b c r) (seqOk lv b c r) := by
  unfold spec_SeqOk.f seqOk
  refine Ev.bind (spec_SquaresOf_ev lv b c r) ?_
  simp only [spec_LevelSquares_eq, Option.bind_some, spec_l01In_eq, decide_eq_true_eq]
  refine Ev.const ?_
  split
  · congr 1; rw [decide_eq_decide]; omega
  · congr 1; symm; rw [decide_eq_false_iff_not]; omega
-- impl sumOf
theorem impl_sumOf_loop (l : List Int) (hl : l.length ≤ 4) (ha : l.all okSide = true) : ∀ i, i ≤ l.length → ∀ a : Int, 0 ≤ a → a ≤ 8 * i → Ev (fun k => impl_sumOf.l0 k a l (l.length : Int) i) (a + isum (l.drop i)) := by
  refine down_to _ ?_ ?_
  · intro a h0 h1
    refine Ev.step (f := fun _ => some a) (fun k => by simp only [impl_sumOf.l0]; rw [if_neg (by omega)]) ?_
    rw [List.drop_eq_nil_of_le (Nat.le_refl _)]
    simpa [isum] using Ev.some a
  · intro i hi ih a h0 h1
    have hr : 1 ≤ rd l i ∧ rd l i ≤ 8 := by
      have := List.all_eq_true.1 ha _ (rd_mem l i hi)
      simpa [okSide] using this
    refine Ev.step (fun k => by rw [impl_sumOf.l0, if_pos (by omega), if_pos (by omega), if_pos (by omega), w64 (by omega) (by omega), w64_succ hi (by omega)]) ?_
    rw [rd_drop l i hi]
    simp only [isum]
    rw [show a + (rd l i + isum (l.drop (i + 1))) = a + rd l i + isum (l.drop (i + 1)) by omega]
    exact ih _ (by omega) (by omega)
theorem impl_sumOf_ev (l : List Int) (hl : l.length ≤ 4) (ha : l.all okSide = true) : Ev (fun k => impl_sumOf.f k l) (isum l) := by
  unfold impl_sumOf.f
  simpa using impl_sumOf_loop l hl ha 0 (by omega) 0 (by omega) (by omega)
-- impl SquaresOf
theorem impl_SquaresOf_inner (L : List (List Int)) (n i : Int) (a b : Int) (c r : List Int) (l : List Int) (hl : l.length ≤ 4) (res : Int) (hn : (∃ d, wrap64 (i + 1) = d ∧ (l.all okSide = true → Ev (fun k => impl_SquaresOf.l0 k L n d a b c r) res))) (hbad : ¬ l.all okSide = true → res = 0) :
    ∀ j, j ≤ l.length → (l.take j).all okSide = true → Ev (fun k => impl_SquaresOf.l1 k L n i l (l.length : Int) j a b c r) res := by
  obtain ⟨d, hd, hn⟩ := hn
  refine down_to _ ?_ ?_
  · intro ht
    rw [List.take_length] at ht
    exact Ev.step (fun k => by rw [impl_SquaresOf.l1, if_neg (by omega), hd]) (hn ht)
  · intro j hj ih ht
    refine Ev.step (fun k => by rw [impl_SquaresOf.l1, if_pos (by omega), if_pos (by omega), if_pos (by omega), impl_within_eq, Option.bind_some, w64_succ hj (by omega)]) ?_
    simp only [decide_eq_true_eq]
    refine Ev.ite (fun hc => ?_) (fun hc => ?_)
    · refine ih ?_
      have e : l.take (j + 1) = l.take j ++ [rd l j] := by
        rw [List.take_succ_eq_append_getElem hj]
        simp [rd, List.getD_eq_getElem?_getD, List.getElem?_eq_getElem hj]
      rw [e, List.all_append, ht]
      simpa [okSide] using hc
    · rw [hbad (fun h => hc (by have := List.all_eq_true.1 h _ (rd_mem l j hj); simpa [okSide] using this))]
      exact Ev.some _
theorem impl_SquaresOf_ev (a b : Int) (c r : List Int) (hc : c.length ≤ 9223372036854775806) (hr : r.length ≤ 9223372036854775806) : Ev (fun k => impl_SquaresOf.f k a b c r) (squares c r) := by
  unfold impl_SquaresOf.f
  simp only [Option.bind_some, List.length_cons, List.length_nil]
  have r0 : rd_L1 [c, r] 0 = c := rfl
  have r1 : rd_L1 [c, r] 1 = r := rfl
  have e1 : wrap64 (0 + 1) = 1 := by unfold wrap64; omega
  have e2 : wrap64 (1 + 1) = 2 := by unfold wrap64; omega
  have bad : ∀ l m : List Int, ¬ sideOk l = true → sumIf l * sumIf m = 0 ∧ sumIf m * sumIf l = 0 := by
    intro l m h
    have : sumIf l = 0 := by unfold sumIf; rw [if_neg h]
    rw [this]; simp
  refine Ev.step (fun k => by rw [impl_SquaresOf.l0, if_pos (by simp), if_pos (by omega), if_pos (by simp), r0, impl_within_eq, Option.bind_some]) ?_
  simp only [decide_eq_true_eq]
  refine Ev.ite (fun h1 => ?_) (fun h1 => ?_)
  · refine impl_SquaresOf_inner [c, r] _ 0 a b c r c (by omega) _ ⟨1, e1, fun ha => ?_⟩ (fun hb => (bad c r (fun h => hb (sideOk_bounds h).2.2.2.2)).1) 0 (by omega) (by simp)
    refine Ev.step (fun k => by rw [impl_SquaresOf.l0, if_pos (by simp), if_pos (by omega), if_pos (by simp), r1, impl_within_eq, Option.bind_some]) ?_
    simp only [decide_eq_true_eq]
    refine Ev.ite (fun h2 => ?_) (fun h2 => ?_)
    · refine impl_SquaresOf_inner [c, r] _ 1 a b c r r (by omega) _ ⟨2, e2, fun hb => ?_⟩ (fun hb => (bad r c (fun h => hb (sideOk_bounds h).2.2.2.2)).2) 0 (by omega) (by simp)
      refine Ev.step (fun k => by rw [impl_SquaresOf.l0, if_neg (by simp)]) ?_
      refine Ev.bind (impl_sumOf_ev c (by omega) ha) (Ev.bind (impl_sumOf_ev r (by omega) hb) ?_)
      have s1 : sideOk c = true := by simp [sideOk, ha]; omega
      have s2 : sideOk r = true := by simp [sideOk, hb]; omega
      have h := squares_bounds c r
      unfold squares sumIf at h
      unfold sumIf
      rw [if_pos s1, if_pos s2] at h ⊢
      rw [w64 (by omega) (by omega)]
      exact Ev.some _
    · have : sumIf c * sumIf r = 0 := (bad r c (fun h => h2 (by have := sideOk_bounds h; omega))).2
      rw [this]; exact Ev.some _
  · have : squares c r = 0 := (bad c r (fun h => h1 (by have := sideOk_bounds h; omega))).1
    rw [this]; exact Ev.some _
-- impl LevelSquares
theorem impl_LevelSquares_eq (n : Int) : impl_LevelSquares.f n = some (levelSquares n) := by
  unfold impl_LevelSquares.f levelSquares
  simp only [impl_within_eq, Option.bind_some, decide_eq_true_eq]
  by_cases h : 1 ≤ n ∧ n ≤ 3
  · obtain rfl | rfl | rfl : n = 1 ∨ n = 2 ∨ n = 3 := by omega
    all_goals decide +kernel
  · rw [if_neg h, if_neg (by omega), if_neg (by omega), if_neg (by omega)]
-- impl SeqOk
theorem impl_SeqOk_ev (lv b : Int) (c r : List Int) (hc : c.length ≤ 9223372036854775806) (hr : r.length ≤ 9223372036854775806) : Ev (fun k => impl_SeqOk.f k lv b c r) (seqOk lv b c r) := by
  unfold impl_SeqOk.f seqOk
  refine Ev.bind (impl_SquaresOf_ev lv b c r hc hr) ?_
  simp only [impl_LevelSquares_eq, Option.bind_some, impl_within_eq, decide_eq_true_eq]
  refine Ev.const ?_
  split
  · congr 1; rw [decide_eq_decide]; omega
  · congr 1; symm; rw [decide_eq_false_iff_not]; omega
-- szIntS
theorem laws_szIntS_eq (l : List Int) (n : Int) (h0 : 0 ≤ n) (h1 : n ≤ 1048576) (hl : l.length ≤ 9223372036854775807) : laws_szIntS.f l n = some (if n < l.length then -1 else n - l.length) := by
  unfold laws_szIntS.f
  rw [w64 (by omega) (by omega)]
  split
  · rw [if_pos (by omega)]
  · rw [if_neg (by omega)]
-- counts
def cnt (n : Int) : Bool := decide (0 ≤ n ∧ n ≤ 1000000000)
-- ParOk
def parOk (q : Int) (l e : Bool) : Bool := decide (0 ≤ q ∧ q ≤ 40) && !(l && e)
-- ParOk impl
theorem impl_ParOk_eq (q : Int) (l e c : Bool) : impl_ParOk.f q l e c = some (parOk q l e) := by
  unfold impl_ParOk.f parOk
  simp only [impl_within_eq, Option.bind_some]
  cases decide (0 ≤ q ∧ q ≤ 40) <;> cases l <;> cases e <;> rfl
-- ParOk spec
theorem spec_ParOk_eq (q : Int) (l e c : Bool) : spec_ParOk.f q l e c = some (parOk q l e) := by
  unfold spec_ParOk.f parOk
  simp only [spec_l01In_eq, Option.bind_some]
  cases decide (0 ≤ q ∧ q ≤ 40) <;> cases l <;> cases e <;> rfl
-- TilesOf
def tilesOf (lv b : Int) (c r : List Int) : Int := if seqOk lv b c r = true then (c.length : Int) * r.length else 0
theorem seqOk_sides {lv b : Int} {c r : List Int} (h : seqOk lv b c r = true) : sideOk c = true ∧ sideOk r = true ∧ 3 ≤ b ∧ b ≤ 8 := by
  simp only [seqOk, decide_eq_true_eq] at h
  have hs : squares c r ≠ 0 := by omega
  unfold squares sumIf at hs
  refine ⟨?_, ?_, h.2.2.1, h.2.2.2⟩
  · refine Classical.byContradiction fun hn => hs ?_
    rw [if_neg hn]; simp
  · refine Classical.byContradiction fun hn => hs ?_
    rw [if_neg (c := sideOk r = true) hn]; simp
theorem tiles_bounds {lv b : Int} {c r : List Int} (h : seqOk lv b c r = true) : 1 ≤ (c.length : Int) * r.length ∧ (c.length : Int) * r.length ≤ 16 := by
  have hs := seqOk_sides h
  have h1 := sideOk_bounds hs.1
  have h2 := sideOk_bounds hs.2.1
  have e : ((c.length * r.length : Nat) : Int) = (c.length : Int) * r.length := Int.natCast_mul _ _
  have := Nat.mul_le_mul h1.2.1 h2.2.1
  have := Nat.mul_le_mul h1.1 h2.1
  omega
-- TilesOf impl
theorem impl_TilesOf_ev (lv b : Int) (c r : List Int) (hc : c.length ≤ 9223372036854775806) (hr : r.length ≤ 9223372036854775806) : Ev (fun k => impl_TilesOf.f k lv b c r) (tilesOf lv b c r) := by
  unfold impl_TilesOf.f tilesOf
  refine Ev.bind (impl_SeqOk_ev lv b c r hc hr) ?_
  split
  · rename_i h
    have := tiles_bounds h
    rw [w64 (by omega) (by omega)]; exact Ev.some _
  · exact Ev.some _
-- TilesOf spec
theorem spec_TilesOf_ev (lv b : Int) (c r : List Int) : Ev (fun k => spec_TilesOf.f k lv b c r) (tilesOf lv b c r) := by
  unfold spec_TilesOf.f tilesOf
  refine Ev.bind (spec_SeqOk_ev lv b c r) ?_
  split
  · rename_i h
    have := tiles_bounds h
    rw [w64 (by omega) (by omega)]; exact Ev.some _
  · exact Ev.some _
-- isNoSeq
def isNoSeq (lv b : Int) (c r : List Int) : Bool := decide (lv = 0 ∧ b = 0 ∧ c.length = 0 ∧ r.length = 0)
-- shifts
theorem shl_bits {b : Int} (h0 : 3 ≤ b) (h1 : b ≤ 8) : shl .i64 1 b = 2 ^ b.toNat ∧ 8 ≤ shl .i64 1 b ∧ shl .i64 1 b ≤ 256 ∧ IntKind.u64.wrap b = b := by
  obtain rfl | rfl | rfl | rfl | rfl | rfl : b = 3 ∨ b = 4 ∨ b = 5 ∨ b = 6 ∨ b = 7 ∨ b = 8 := by omega
  all_goals decide +kernel
-- AdmitOk value
def admitOk (has live : Bool) (lv b : Int) (c r : List Int) (q : Int) (l e cf : Bool) (f n g : Int) : Bool :=
  cnt n && cnt g && (if has = true then decide (tilesOf lv b c r = 1) && parOk q l e && decide (0 ≤ f ∧ f < shl .i64 1 b) else !live && isNoSeq lv b c r && (q == 0 && (!l && (!e && !cf))) && f == 0)
theorem tilesOf_one {lv b : Int} {c r : List Int} (h : tilesOf lv b c r = 1) : seqOk lv b c r = true ∧ 3 ≤ b ∧ b ≤ 8 := by
  unfold tilesOf at h
  split at h
  · rename_i hs
    exact ⟨hs, (seqOk_sides hs).2.2⟩
  · omega
-- szSeq
theorem laws_szSeq_eq (lv b : Int) (c r : List Int) (n : Int) (h0 : 0 ≤ n) (h1 : n ≤ 1048576) (hc : c.length ≤ 9223372036854775807) (hr : r.length ≤ 9223372036854775807) : ∃ t, laws_szSeq.f lv b c r n = some t ∧ (0 ≤ t → (c.length : Int) + r.length ≤ n) ∧ t ≤ n ∧ -1 ≤ t := by
  unfold laws_szSeq.f
  rw [laws_szIntS_eq _ _ h0 h1 hc]
  simp only [Option.bind_some]
  by_cases hx : n < c.length
  · exact ⟨-1, by rw [if_pos hx]; rfl, by omega, by omega, by omega⟩
  · rw [if_neg hx, if_neg (by omega), laws_szIntS_eq _ _ (by omega) (by omega) hr]
    simp only [Option.bind_some]
    by_cases hy : n - c.length < r.length
    · exact ⟨-1, by rw [if_pos hy]; rfl, by omega, by omega, by omega⟩
    · exact ⟨n - c.length - r.length, by rw [if_neg hy, if_neg (by omega)], by omega, by omega, by omega⟩
-- toSeq, eqSeq, eqPar
theorem laws_toSeq_ev (lv b : Int) (c r : List Int) (hc : c.length ≤ 35184372088832) (hr : r.length ≤ 35184372088832) : Ev (fun k => laws_toSeq.f k lv b c r) (lv, b, c, r) := by
  unfold laws_toSeq.f
  exact Ev.bind (laws_toIntS_ev c hc) (Ev.bind (laws_toIntS_ev r hr) (Ev.some _))
theorem laws_eqSeq_self (lv b : Int) (c r : List Int) (hc : c.length ≤ 35184372088832) (hr : r.length ≤ 35184372088832) : Ev (fun k => laws_eqSeq.f k lv b c r lv b c r) true := by
  unfold laws_eqSeq.f
  simp only [if_true]
  refine Ev.bind (laws_eqIntS_ev c c (by omega)) ?_
  simp only [decide_true, if_true]
  refine Ev.bind (laws_eqIntS_ev r r (by omega)) ?_
  simp only [decide_true, if_true]
  exact Ev.some _
theorem laws_eqPar_self (q : Int) (l e c : Bool) : laws_eqPar.f q l e c q l e c = some true := by simp [laws_eqPar.f]
-- PicOk value
def picOk (w h : Int) (d : ByteArray) : Bool := decide (1 ≤ w ∧ w ≤ 256 ∧ 1 ≤ h ∧ h ≤ 256 ∧ (d.size : Int) = w * h)
theorem picOk_iff (w h : Int) (d : ByteArray) : picOk w h d = true ↔ 1 ≤ w ∧ w ≤ 256 ∧ 1 ≤ h ∧ h ≤ 256 ∧ (d.size : Int) = w * h := by simp [picOk]
theorem mul_256 {w h : Int} (h1 : 1 ≤ w) (h2 : w ≤ 256) (h3 : 1 ≤ h) (h4 : h ≤ 256) : 1 ≤ w * h ∧ w * h ≤ 65536 := by
  have a := Int.mul_le_mul h2 h4 (by omega) (by omega : (0 : Int) ≤ 256)
  have b := Int.mul_le_mul h1 h3 (by omega) (by omega : (0 : Int) ≤ w)
  omega
-- PicOk impl
theorem impl_PicOk_eq (w h : Int) (d : ByteArray) : impl_PicOk.f w h d = some (picOk w h d) := by
  unfold impl_PicOk.f picOk
  simp only [impl_within_eq, Option.bind_some, decide_eq_true_eq]
  by_cases h1 : 1 ≤ w ∧ w ≤ 256
  · rw [if_pos h1]
    by_cases h2 : 1 ≤ h ∧ h ≤ 256
    · rw [if_pos h2]
      have := mul_256 h1.1 h1.2 h2.1 h2.2
      rw [w64 (by omega) (by omega), Option.some.injEq, Bool.eq_iff_iff]
      simp [h1, h2]
    · rw [if_neg h2, Option.some.injEq]; symm; rw [decide_eq_false_iff_not]; exact fun h => h2 ⟨h.2.2.1, h.2.2.2.1⟩
  · rw [if_neg h1, Option.some.injEq]; symm; rw [decide_eq_false_iff_not]; exact fun h => h1 ⟨h.1, h.2.1⟩
-- PicOk spec
theorem spec_PicOk_eq (w h : Int) (d : ByteArray) : spec_PicOk.f w h d = some (picOk w h d) := by
  unfold spec_PicOk.f picOk
  simp only [spec_l01In_eq, Option.bind_some, decide_eq_true_eq]
  by_cases h1 : 1 ≤ w ∧ w ≤ 256
  · rw [if_pos h1]
    by_cases h2 : 1 ≤ h ∧ h ≤ 256
    · rw [if_pos h2]
      have := mul_256 h1.1 h1.2 h2.1 h2.2
      rw [w64 (by omega) (by omega), Option.some.injEq, Bool.eq_iff_iff]
      simp [h1, h2]
    · rw [if_neg h2, Option.some.injEq]; symm; rw [decide_eq_false_iff_not]; exact fun h => h2 ⟨h.2.2.1, h.2.2.2.1⟩
  · rw [if_neg h1, Option.some.injEq]; symm; rw [decide_eq_false_iff_not]; exact fun h => h1 ⟨h.1, h.2.1⟩
-- SizeOf value
def sizeOfS (lv b : Int) (c r : List Int) : Int × Int := if seqOk lv b c r = true then (8 * isum c, 8 * isum r) else (0, 0)
-- SizeOf impl
theorem impl_SizeOf_ev (lv b : Int) (c r : List Int) (hc : c.length ≤ 9223372036854775806) (hr : r.length ≤ 9223372036854775806) : Ev (fun k => impl_SizeOf.f k lv b c r) (sizeOfS lv b c r) := by
  unfold impl_SizeOf.f sizeOfS
  refine Ev.bind (impl_SeqOk_ev lv b c r hc hr) ?_
  split
  · rename_i h
    have hs := seqOk_sides h
    have h1 := sideOk_bounds hs.1
    have h2 := sideOk_bounds hs.2.1
    refine Ev.bind (impl_sumOf_ev c h1.2.1 h1.2.2.2.2) (Ev.bind (impl_sumOf_ev r h2.2.1 h2.2.2.2.2) ?_)
    rw [w64 (by omega) (by omega), w64 (by omega) (by omega)]
    exact Ev.some _
  · exact Ev.some _
-- SizeOf spec
theorem spec_SizeOf_ev (lv b : Int) (c r : List Int) : Ev (fun k => spec_SizeOf.f k lv b c r) (sizeOfS lv b c r) := by
  unfold spec_SizeOf.f sizeOfS
  refine Ev.bind (spec_SeqOk_ev lv b c r) ?_
  split
  · rename_i h
    have hs := seqOk_sides h
    have h1 := sideOk_bounds hs.1
    have h2 := sideOk_bounds hs.2.1
    have e1 := spec_l05Sum_ev c
    have e2 := spec_l05Sum_ev r
    rw [sumIf, if_pos hs.1] at e1
    rw [sumIf, if_pos hs.2.1] at e2
    refine Ev.bind e1 (Ev.bind e2 ?_)
    rw [w64 (by omega) (by omega), w64 (by omega) (by omega)]
    exact Ev.some _
  · exact Ev.some _
-- fits
def fitsS (w h : Int) (d : ByteArray) (lv b : Int) (c r : List Int) : Bool := picOk w h d && (w == (sizeOfS lv b c r).1) && (h == (sizeOfS lv b c r).2)
-- fits impl
theorem impl_fits_ev (w h : Int) (d : ByteArray) (lv b : Int) (c r : List Int) (hc : c.length ≤ 9223372036854775806) (hr : r.length ≤ 9223372036854775806) : Ev (fun k => impl_fits.f k w h d lv b c r) (fitsS w h d lv b c r) := by
  unfold impl_fits.f fitsS
  refine Ev.bind (impl_SizeOf_ev lv b c r hc hr) ?_
  simp only [impl_PicOk_eq, Option.bind_some]
  refine Ev.const ?_
  cases picOk w h d
  · rfl
  · by_cases h1 : w = (sizeOfS lv b c r).1
    · simp [h1]
    · simp [h1]
-- no picture
def noPic (w h : Int) (d : ByteArray) : Bool := w == 0 && (h == 0 && (d.toList == ([] : List UInt8)))
theorem toList_loop (d : ByteArray) (n : Nat) : ∀ (i : Nat) (r : List UInt8), d.size - i = n → i ≤ d.size → (ByteArray.toList.loop d i r).length = r.length + (d.size - i) := by
  induction n with
  | zero =>
    intro i r h hi
    unfold ByteArray.toList.loop
    rw [if_neg (by omega)]
    simp; omega
  | succ n ih =>
    intro i r h hi
    unfold ByteArray.toList.loop
    rw [if_pos (by omega), ih (i + 1) (d.get! i :: r) (by omega) (by omega)]
    simp; omega
theorem toList_size (d : ByteArray) : d.toList.length = d.size := by
  unfold ByteArray.toList
  rw [toList_loop d _ 0 [] rfl (Nat.zero_le _)]; simp
theorem toList_nil_size (d : ByteArray) : (d.toList == ([] : List UInt8)) = ((d.size : Int) == 0) := by
  have e : d.toList.length = d.size := toList_size d
  rw [Bool.eq_iff_iff]
  simp only [beq_iff_eq]
  constructor
  · intro h; rw [h] at e; simp at e; omega
  · intro h; exact List.eq_nil_of_length_eq_zero (by omega)
-- szPic, toPic, eqPic
theorem laws_szPic_eq (w h : Int) (d : ByteArray) (n : Int) (h0 : 0 ≤ n) (h1 : n ≤ 1048576) (hd : d.size ≤ 9223372036854775807) : ∃ t, laws_szPic.f w h d n = some t ∧ (0 ≤ t → (d.size : Int) ≤ n) ∧ t ≤ n ∧ -1 ≤ t := by
  unfold laws_szPic.f
  rw [w64 (by omega) (by omega)]
  by_cases hn : n - (d.size : Int) < 0
  · exact ⟨-1, by rw [if_pos hn], by omega, by omega, by omega⟩
  · exact ⟨n - (d.size : Int), by rw [if_neg hn], by omega, by omega, by omega⟩
-- eqPic
theorem laws_eqPic_self (w h : Int) (d : ByteArray) : laws_eqPic.f w h d w h d = some true := by simp [laws_eqPic.f]
-- SourceOk value
def srcTail (lv b : Int) (c r : List Int) (has : Bool) (w h : Int) (d : ByteArray) : Bool := if has = true then fitsS w h d lv b c r else noPic w h d
def srcMid (s ev re : Int) : Bool := decide (1 ≤ ev ∧ ev ≤ 1000) && (decide (0 ≤ s ∧ s ≤ 1000) && decide (0 ≤ re ∧ re ≤ 4))
def sourceOk (lv b : Int) (c r : List Int) (q : Int) (l e : Bool) (rq rt rb f s ev re : Int) (has : Bool) (w h : Int) (d : ByteArray) : Bool :=
  (tilesOf lv b c r == 1) && (parOk q l e && (rateOk rq rt rb && (decide (0 ≤ f ∧ f < shl .i64 1 b) && (srcMid s ev re && srcTail lv b c r has w h d))))
-- SourceOk spec
theorem spec_SourceOk_j1 (x : Bool) (lv b : Int) (c r : List Int) (q : Int) (l e cf : Bool) (rq rt rb f s ev re : Int) (has : Bool) (w h : Int) (d : ByteArray) : Ev (fun k => spec_SourceOk.j1 k x lv b c r q l e cf rq rt rb f s ev re has w h d) (!x && srcTail lv b c r has w h d) := by
  cases x
  · refine Ev.step (fun k => by rw [spec_SourceOk.j1, if_neg (by decide)]) ?_
    refine Ev.bind (spec_SizeOf_ev lv b c r) ?_
    unfold srcTail
    cases has
    · simp only [Bool.false_eq_true, if_false, Bool.not_false, Bool.true_and]
      refine Ev.const ?_
      unfold noPic
      rw [toList_nil_size]
      by_cases h1 : w = 0
      · by_cases h2 : h = 0
        · simp [h1, h2]
        · simp [h1, h2]
      · simp [h1]
    · simp only [if_true, Bool.not_false, Bool.true_and, spec_PicOk_eq, Option.bind_some]
      refine Ev.const ?_
      unfold fitsS
      cases picOk w h d
      · simp
      · by_cases h1 : w = (sizeOfS lv b c r).1
        · simp [h1]
        · simp [h1]
  · simp only [Bool.not_true, Bool.false_and]
    exact Ev.step (fun k => by rw [spec_SourceOk.j1, if_pos rfl]) (Ev.some _)
theorem spec_SourceOk_j0 (x : Bool) (lv b : Int) (c r : List Int) (q : Int) (l e cf : Bool) (rq rt rb f s ev re : Int) (has : Bool) (w h : Int) (d : ByteArray) : Ev (fun k => spec_SourceOk.j0 k x lv b c r q l e cf rq rt rb f s ev re has w h d) (!x && (srcMid s ev re && srcTail lv b c r has w h d)) := by
  cases x
  · refine Ev.step (fun k => by rw [spec_SourceOk.j0, if_neg (by decide)]) ?_
    simp only [spec_l01In_eq, Option.bind_some, decide_eq_true_eq, Bool.not_false, Bool.true_and]
    have no := spec_SourceOk_j1 true lv b c r q l e cf rq rt rb f s ev re has w h d
    have y := spec_SourceOk_j1 (!decide (0 ≤ re ∧ re ≤ 4)) lv b c r q l e cf rq rt rb f s ev re has w h d
    rw [Bool.not_not] at y
    simp only [Bool.not_true, Bool.false_and] at no
    unfold srcMid
    by_cases h1 : 1 ≤ ev ∧ ev ≤ 1000
    · rw [decide_eq_true h1, Bool.true_and]
      simp only [if_pos h1]
      by_cases h2 : 0 ≤ s ∧ s ≤ 1000
      · rw [decide_eq_true h2, Bool.true_and]
        simp only [if_pos h2]
        exact y
      · rw [decide_eq_false h2, Bool.false_and, Bool.false_and]
        simp only [if_neg h2]
        exact no
    · rw [decide_eq_false h1, Bool.false_and, Bool.false_and]
      simp only [if_neg h1]
      exact no
  · simp only [Bool.not_true, Bool.false_and]
    exact Ev.step (fun k => by rw [spec_SourceOk.j0, if_pos rfl]) (Ev.some _)
theorem spec_SourceOk_ev (lv b : Int) (c r : List Int) (q : Int) (l e cf : Bool) (rq rt rb f s ev re : Int) (has : Bool) (w h : Int) (d : ByteArray) : Ev (fun k => spec_SourceOk.f k lv b c r q l e cf rq rt rb f s ev re has w h d) (sourceOk lv b c r q l e rq rt rb f s ev re has w h d) := by
  unfold spec_SourceOk.f sourceOk
  refine Ev.bind (spec_TilesOf_ev lv b c r) ?_
  have no := spec_SourceOk_j0 true lv b c r q l e cf rq rt rb f s ev re has w h d
  simp only [Bool.not_true, Bool.false_and] at no
  by_cases h0 : tilesOf lv b c r = 1
  · simp only [if_pos h0, spec_ParOk_eq, Option.bind_some]
    rw [show (tilesOf lv b c r == 1) = true from beq_iff_eq.mpr h0, Bool.true_and]
    obtain ⟨_, hb1, hb2⟩ := tilesOf_one h0
    have hb := shl_bits hb1 hb2
    rw [hb.2.2.2]
    cases parOk q l e
    · simpa using no
    · simp only [if_true, spec_RateOk_eq, Option.bind_some, Bool.true_and]
      cases rateOk rq rt rb
      · simpa using no
      · simp only [if_true, Bool.true_and]
        by_cases h1 : f < 0
        · simp only [if_pos h1]
          rw [decide_eq_false (by omega), Bool.false_and]
          exact no
        · simp only [if_neg h1, if_pos (show 0 ≤ b by omega)]
          have y := spec_SourceOk_j0 (decide (f ≥ shl .i64 1 b)) lv b c r q l e cf rq rt rb f s ev re has w h d
          rw [show (decide (0 ≤ f ∧ f < shl .i64 1 b)) = !decide (f ≥ shl .i64 1 b) by rw [← decide_not]; exact decide_eq_decide.mpr (by omega)]
          exact y
  · simp only [if_neg h0]
    rw [show (tilesOf lv b c r == 1) = false from beq_eq_false_iff_ne.mpr h0, Bool.false_and]
    exact no
-- SourceOk impl
theorem impl_SourceOk_j0 (x : Bool) (lv b : Int) (c r : List Int) (q : Int) (l e cf : Bool) (rq rt rb f s ev re : Int) (has : Bool) (w h : Int) (d : ByteArray) (hc : c.length ≤ 9223372036854775806) (hr : r.length ≤ 9223372036854775806) : Ev (fun k => impl_SourceOk.j0 k x lv b c r q l e cf rq rt rb f s ev re has w h d) (!x && srcTail lv b c r has w h d) := by
  cases x
  · refine Ev.step (fun k => by rw [impl_SourceOk.j0, if_neg (by decide)]) ?_
    unfold srcTail
    cases has
    · simp only [Bool.false_eq_true, if_false, Bool.not_false, Bool.true_and]
      exact Ev.some _
    · simp only [if_true, Bool.not_false, Bool.true_and]
      exact Ev.bind (impl_fits_ev w h d lv b c r hc hr) (Ev.some _)
  · simp only [Bool.not_true, Bool.false_and]
    exact Ev.step (fun k => by rw [impl_SourceOk.j0, if_pos rfl]) (Ev.some _)
theorem impl_SourceOk_ev (lv b : Int) (c r : List Int) (q : Int) (l e cf : Bool) (rq rt rb f s ev re : Int) (has : Bool) (w h : Int) (d : ByteArray) (hc : c.length ≤ 9223372036854775806) (hr : r.length ≤ 9223372036854775806) : Ev (fun k => impl_SourceOk.f k lv b c r q l e cf rq rt rb f s ev re has w h d) (sourceOk lv b c r q l e rq rt rb f s ev re has w h d) := by
  unfold impl_SourceOk.f sourceOk
  refine Ev.bind (impl_TilesOf_ev lv b c r hc hr) ?_
  have no := impl_SourceOk_j0 true lv b c r q l e cf rq rt rb f s ev re has w h d hc hr
  simp only [Bool.not_true, Bool.false_and] at no
  by_cases h0 : tilesOf lv b c r = 1
  · simp only [if_pos h0, impl_ParOk_eq, Option.bind_some]
    rw [show (tilesOf lv b c r == 1) = true from beq_iff_eq.mpr h0, Bool.true_and]
    obtain ⟨_, hb1, hb2⟩ := tilesOf_one h0
    have hb := shl_bits hb1 hb2
    cases parOk q l e
    · simpa using no
    · simp only [if_true, impl_RateOk_eq, Option.bind_some, Bool.true_and]
      cases rateOk rq rt rb
      · simpa using no
      · simp only [if_true, Bool.true_and, if_pos (show 0 ≤ b by omega), impl_within_eq, Option.bind_some, decide_eq_true_eq]
        rw [w64 (by omega) (by omega)]
        by_cases h1 : 0 ≤ f ∧ f ≤ shl .i64 1 b - 1
        · simp only [if_pos h1]
          rw [decide_eq_true (show 0 ≤ f ∧ f < shl .i64 1 b by omega), Bool.true_and]
          unfold srcMid
          by_cases h2 : 1 ≤ ev ∧ ev ≤ 1000
          · rw [decide_eq_true h2, Bool.true_and]
            simp only [if_pos h2]
            by_cases h3 : 0 ≤ s ∧ s ≤ 1000
            · rw [decide_eq_true h3, Bool.true_and]
              simp only [if_pos h3]
              have y := impl_SourceOk_j0 (!decide (0 ≤ re ∧ re ≤ 4)) lv b c r q l e cf rq rt rb f s ev re has w h d hc hr
              rw [Bool.not_not] at y
              exact y
            · rw [decide_eq_false h3, Bool.false_and, Bool.false_and]
              simp only [if_neg h3]
              exact no
          · rw [decide_eq_false h2, Bool.false_and, Bool.false_and]
            simp only [if_neg h2]
            exact no
        · simp only [if_neg h1]
          rw [decide_eq_false (by omega), Bool.false_and]
          exact no
  · simp only [if_neg h0]
    rw [show (tilesOf lv b c r == 1) = false from beq_eq_false_iff_ne.mpr h0, Bool.false_and]
    exact no
-- KeyDue
def keyDue (ok has : Bool) (s ev : Int) (want : Bool) : Bool := if ok = true then (if want = true then true else (if has = true then decide (s ≥ ev) else true)) else false
theorem spec_KeyDue_ev (lv b : Int) (c r : List Int) (q : Int) (l e cf : Bool) (rq rt rb f s ev re : Int) (has : Bool) (w h : Int) (d : ByteArray) (want : Bool) : Ev (fun k => spec_KeyDue.f k lv b c r q l e cf rq rt rb f s ev re has w h d want) (keyDue (sourceOk lv b c r q l e rq rt rb f s ev re has w h d) has s ev want) := by
  unfold spec_KeyDue.f keyDue
  refine Ev.bind (spec_SourceOk_ev lv b c r q l e cf rq rt rb f s ev re has w h d) (Ev.const ?_)
  cases sourceOk lv b c r q l e rq rt rb f s ev re has w h d <;> cases want <;> cases has <;> rfl
theorem impl_KeyDue_ev (lv b : Int) (c r : List Int) (q : Int) (l e cf : Bool) (rq rt rb f s ev re : Int) (has : Bool) (w h : Int) (d : ByteArray) (want : Bool) (hc : c.length ≤ 9223372036854775806) (hr : r.length ≤ 9223372036854775806) : Ev (fun k => impl_KeyDue.f k lv b c r q l e cf rq rt rb f s ev re has w h d want) (keyDue (sourceOk lv b c r q l e rq rt rb f s ev re has w h d) has s ev want) := by
  unfold impl_KeyDue.f keyDue
  refine Ev.bind (impl_SourceOk_ev lv b c r q l e cf rq rt rb f s ev re has w h d hc hr) (Ev.const ?_)
  cases sourceOk lv b c r q l e rq rt rb f s ev re has w h d <;> cases want <;> cases has <;> rfl
-- szSource, toSource, eqSource
theorem laws_szSource_eq (lv b : Int) (c r : List Int) (q : Int) (l e cf : Bool) (rq rt rb f s ev re : Int) (has : Bool) (w h : Int) (d : ByteArray) (n : Int) (h0 : 0 ≤ n) (h1 : n ≤ 1048576) (hc : c.length ≤ 9223372036854775807) (hr' : r.length ≤ 9223372036854775807) (y1 : d.size ≤ 9223372036854775807) : ∃ t, laws_szSource.f lv b c r q l e cf rq rt rb f s ev re has w h d n = some t ∧ (0 ≤ t → (c.length : Int) + r.length + d.size ≤ n + n) ∧ t ≤ n ∧ -1 ≤ t := by
  unfold laws_szSource.f
  obtain ⟨t, ht, k1, k2, k3⟩ := laws_szSeq_eq lv b c r n h0 h1 hc hr'
  rw [ht]; simp only [Option.bind_some]
  by_cases ht0 : t < 0
  · exact ⟨-1, by rw [if_pos ht0], by omega, by omega, by omega⟩
  rw [if_neg ht0]
  obtain ⟨u, hu, k4, k5, k6⟩ := laws_szPic_eq w h d t (by omega) (by omega) y1
  rw [hu]; simp only [Option.bind_some]
  by_cases hu0 : u < 0
  · exact ⟨-1, by rw [if_pos hu0], by omega, by omega, by omega⟩
  exact ⟨u, by rw [if_neg hu0], by omega, by omega, by omega⟩
theorem laws_toSource_ev (lv b : Int) (c r : List Int) (q : Int) (l e cf : Bool) (rq rt rb f s ev re : Int) (has : Bool) (w h : Int) (d : ByteArray) (hc : c.length ≤ 35184372088832) (hr' : r.length ≤ 35184372088832) : Ev (fun k => laws_toSource.f k lv b c r q l e cf rq rt rb f s ev re has w h d) (lv, b, c, r, q, l, e, cf, rq, rt, rb, f, s, ev, re, has, w, h, d) := by
  unfold laws_toSource.f laws_toPar.f laws_toPic.f laws_toRate.f
  exact Ev.bind (laws_toSeq_ev lv b c r hc hr') (Ev.some _)
theorem laws_eqRate_self' (a b c : Int) : laws_eqRate.f a b c a b c = some true := by simp [laws_eqRate.f]
theorem laws_eqSource_self (lv b : Int) (c r : List Int) (q : Int) (l e cf : Bool) (rq rt rb f s ev re : Int) (has : Bool) (w h : Int) (d : ByteArray) (hc : c.length ≤ 35184372088832) (hr' : r.length ≤ 35184372088832) : Ev (fun k => laws_eqSource.f k lv b c r q l e cf rq rt rb f s ev re has w h d lv b c r q l e cf rq rt rb f s ev re has w h d) true := by
  unfold laws_eqSource.f
  refine Ev.bind (laws_eqSeq_self lv b c r hc hr') ?_
  simp only [bne_self_eq_false, Bool.false_eq_true, if_false, if_true, laws_eqPar_self, laws_eqPic_self, laws_eqRate_self', Option.bind_some]
  exact Ev.some _
-- LAW FnExactKeyDue
theorem FnExactKeyDue (a0_0 a0_1 : Int) (l0_2 l0_3 : List Int) (a0_4 : Int) (a0_5 a0_6 a0_7 : Bool) (a0_8 a0_9 a0_10 a0_11 a0_12 a0_13 a0_14 : Int) (a0_15 : Bool) (a0_16 a0_17 : Int) (a0_18 : ByteArray) (a1 : Bool) (m0_2 : l0_2.length ≤ maxLen) (m0_3 : l0_3.length ≤ maxLen) (y0_18 : a0_18.size ≤ maxLen) :
    ∃ k, laws_FnExactKeyDue.f k a0_0 a0_1 l0_2 l0_3 a0_4 a0_5 a0_6 a0_7 a0_8 a0_9 a0_10 a0_11 a0_12 a0_13 a0_14 a0_15 a0_16 a0_17 a0_18 a1 = some true := by
  refine Ev.rounds (g := fun k => laws_FnExactKeyDue.f k a0_0 a0_1 l0_2 l0_3 a0_4 a0_5 a0_6 a0_7 a0_8 a0_9 a0_10 a0_11 a0_12 a0_13 a0_14 a0_15 a0_16 a0_17 a0_18 a1) ?_
  unfold laws_FnExactKeyDue.f
  simp only [maxLen] at m0_2 m0_3 y0_18
  obtain ⟨t, ht, h1, h2, _⟩ := laws_szSource_eq a0_0 a0_1 l0_2 l0_3 a0_4 a0_5 a0_6 a0_7 a0_8 a0_9 a0_10 a0_11 a0_12 a0_13 a0_14 a0_15 a0_16 a0_17 a0_18 1048576 (by omega) (by omega) (by omega) (by omega) (by omega)
  rw [ht]
  simp only [Option.bind_some]
  refine Ev.ite (fun _ => Ev.some _) (fun h => ?_)
  have h3 := h1 (by omega)
  have hq := laws_toSource_ev a0_0 a0_1 l0_2 l0_3 a0_4 a0_5 a0_6 a0_7 a0_8 a0_9 a0_10 a0_11 a0_12 a0_13 a0_14 a0_15 a0_16 a0_17 a0_18 (by omega) (by omega)
  have e1 := spec_KeyDue_ev a0_0 a0_1 l0_2 l0_3 a0_4 a0_5 a0_6 a0_7 a0_8 a0_9 a0_10 a0_11 a0_12 a0_13 a0_14 a0_15 a0_16 a0_17 a0_18 a1
  have e2 := impl_KeyDue_ev a0_0 a0_1 l0_2 l0_3 a0_4 a0_5 a0_6 a0_7 a0_8 a0_9 a0_10 a0_11 a0_12 a0_13 a0_14 a0_15 a0_16 a0_17 a0_18 a1 (by omega) (by omega)
  have e3 := laws_eqSource_self a0_0 a0_1 l0_2 l0_3 a0_4 a0_5 a0_6 a0_7 a0_8 a0_9 a0_10 a0_11 a0_12 a0_13 a0_14 a0_15 a0_16 a0_17 a0_18 (by omega) (by omega)
  refine Ev.bind hq (Ev.bind e1 (Ev.bind hq (Ev.bind e2 ?_)))
  simp only [bne_self_eq_false, Bool.false_eq_true, if_false]
  refine Ev.bind hq (Ev.bind e3 ?_)
  simp only [if_true]
  exact Ev.some _

end Go.Proofs.Ytlfbcmhjopichaa.Pure
