/- The pure statement of the law FnExactDecOk: over numbers and lists alone, the printed function answers true. Conditions: none beyond the sizes of what a machine holds. -/
import Derived.Test.YtlfbcmhjopichaaQFnExactDecOkx10
import Derived.Laws.BitsLemmas
namespace Go.Proofs.Ytlfbcmhjopichaa.Pure
open Go.RowKit Go.Proofs.Ytlfbcmhjopichaa.QFnExactDecOk Go.Proofs.YtlfbcmhjopichaaW.PrintWords Go.Proofs.YtlfbcmhjopichaaW.PrintLast Go.Proofs.YtlfbcmhjopichaaW.PrintMore
set_option linter.unusedVariables false
set_option linter.unusedSimpArgs false

-- base: whole numbers
theorem wf64 {n : Int} (h : (Lit.int .i64 n).wf = true) : -9223372036854775808 ≤ n ∧ n ≤ 9223372036854775807 := by
  simp [Lit.wf, IntKind.min, IntKind.max, IntKind.signed, IntKind.bits] at h
  omega
theorem w64 {e : Int} (h1 : -9223372036854775808 ≤ e) (h2 : e ≤ 9223372036854775807) : wrap64 e = e := by unfold wrap64; omega
theorem tmod_pos {a b : Int} (h : 0 ≤ a) : Int.tmod a b = a % b := Int.tmod_eq_emod_of_nonneg h
theorem tdiv_pos {a b : Int} (h : 0 ≤ a) : Int.tdiv a b = a / b := Int.tdiv_eq_ediv_of_nonneg h
theorem w64_wf (e : Int) : -9223372036854775808 ≤ wrap64 e ∧ wrap64 e ≤ 9223372036854775807 := by unfold wrap64; omega
-- base: rounds
theorem Ev.mk_ {α : Type} {g : Nat → Option α} {r : α} (K : Nat) (h : ∀ k, K ≤ k → g k = some r) : Ev g r := ⟨K, h⟩
theorem Ev.succ {α : Type} {g : Nat → Option α} {r : α} (h : ∀ k, g (k + 1) = some r) : Ev g r := ⟨1, fun k hk => by obtain ⟨m, rfl⟩ : ∃ m, k = m + 1 := ⟨k - 1, by omega⟩; exact h m⟩
theorem Ev.some {α : Type} (r : α) : Ev (fun _ => Option.some r) r := ⟨0, fun _ _ => rfl⟩
theorem Ev.const {α : Type} {o : Option α} {r : α} (h : o = Option.some r) : Ev (fun _ => o) r := ⟨0, fun _ _ => h⟩
theorem Ev.ite {α : Type} {c : Prop} [Decidable c] {g f : Nat → Option α} {r : α} (h1 : c → Ev g r) (h2 : ¬ c → Ev f r) : Ev (fun k => if c then g k else f k) r := by
  by_cases h : c
  · simpa only [if_pos h] using h1 h
  · simpa only [if_neg h] using h2 h
theorem Ev.pos {α : Type} {c : Prop} [Decidable c] {g f : Nat → Option α} {r : α} (hc : c) (h : Ev g r) : Ev (fun k => if c then g k else f k) r := by
  simpa only [if_pos hc] using h
theorem Ev.neg {α : Type} {c : Prop} [Decidable c] {g f : Nat → Option α} {r : α} (hc : ¬ c) (h : Ev f r) : Ev (fun k => if c then g k else f k) r := by
  simpa only [if_neg hc] using h
theorem Ev.bindc {α β : Type} {o : Option α} {f : Nat → α → Option β} {a : α} {r : β} (h : o = Option.some a) (k : Ev (fun n => f n a) r) : Ev (fun n => o.bind (f n)) r := by
  subst h; exact k
-- within
theorem impl_within_eq (a b c : Int) : impl_within.f a b c = some (decide (b ≤ a ∧ a ≤ c)) := by
  unfold impl_within.f
  by_cases h : a ≥ b
  · rw [if_pos h]; simp [show b ≤ a from h]
  · rw [if_neg h]; simp; omega
-- l01In
theorem spec_l01In_eq (a b c : Int) : spec_l01In.f a b c = some (decide (b ≤ a ∧ a ≤ c)) := by
  unfold spec_l01In.f
  by_cases h : a ≥ b
  · rw [if_pos h]; simp [show b ≤ a from h]
  · rw [if_neg h]; simp; omega
-- lists: rd and drop
theorem rd_drop (l : List Int) (i : Nat) (h : i < l.length) : l.drop i = rd l i :: l.drop (i + 1) := by
  rw [List.drop_eq_getElem_cons h]
  congr 1
  simp [rd, List.getD_eq_getElem?_getD, List.getElem?_eq_getElem h]
theorem w64_succ {i n : Nat} (h : i < n) (hn : n ≤ 9223372036854775807) : wrap64 ((i : Int) + 1) = ((i + 1 : Nat) : Int) := by
  rw [w64 (by omega) (by omega)]; omega
-- toIntS
theorem laws_toIntS_loop (l : List Int) (hl : l.length ≤ 9223372036854775806) : ∀ (d i : Nat) (o : List Int) (k : Nat), l.length - i = d → i ≤ l.length → o.length = l.length → d < k →
    laws_toIntS.l0 k l o i = some (o.take i ++ l.drop i) := by
  intro d
  induction d with
  | zero =>
    intro i o k hd hi ho hk
    obtain ⟨k, rfl⟩ : ∃ m, k = m + 1 := ⟨k - 1, by omega⟩
    simp only [laws_toIntS.l0]
    rw [if_neg (by omega), List.drop_eq_nil_of_le (by omega), List.take_of_length_le (by omega), List.append_nil]
  | succ d ih =>
    intro i o k hd hi ho hk
    obtain ⟨k, rfl⟩ : ∃ m, k = m + 1 := ⟨k - 1, by omega⟩
    simp only [laws_toIntS.l0]
    rw [if_pos (by omega), if_pos (by omega), if_pos (by omega), w64_succ (n := l.length) (by omega) (by omega), ih (i + 1) _ k (by omega) (by omega) (by simpa using ho) (by omega), rd_drop l i (by omega)]
    congr 1
    rw [show ((i : Int)).toNat = i from by omega, List.take_succ_eq_append_getElem (by simp; omega)]
    simp [List.take_set_of_le]
theorem laws_toIntS_ev (l : List Int) (hl : l.length ≤ 35184372088832) : Ev (fun k => laws_toIntS.f k l) l := by
  refine ⟨l.length + 1, fun k hk => ?_⟩
  show laws_toIntS.f k l = some l
  unfold laws_toIntS.f
  rw [if_pos (by omega), if_pos (by omega)]
  have := laws_toIntS_loop l (by omega) l.length 0 (List.replicate ((l.length : Int) : Int).toNat 0) k (by omega) (by omega) (by simp) (by omega)
  simpa using this
-- eqIntS
theorem laws_eqIntS_loop (l m : List Int) (hl : l.length ≤ 9223372036854775806) (hm : m.length = l.length) : ∀ (d i : Nat) (k : Nat), l.length - i = d → i ≤ l.length → d < k →
    laws_eqIntS.l0 k l m i = some (decide (l.drop i = m.drop i)) := by
  intro d
  induction d with
  | zero =>
    intro i k hd hi hk
    obtain ⟨k, rfl⟩ : ∃ m, k = m + 1 := ⟨k - 1, by omega⟩
    simp only [laws_eqIntS.l0]
    rw [if_neg (by omega), List.drop_eq_nil_of_le (by omega), List.drop_eq_nil_of_le (by omega)]; rfl
  | succ d ih =>
    intro i k hd hi hk
    obtain ⟨k, rfl⟩ : ∃ m, k = m + 1 := ⟨k - 1, by omega⟩
    simp only [laws_eqIntS.l0]
    rw [if_pos (by omega), if_pos (by omega), if_pos (by omega), w64_succ (n := l.length) (by omega) (by omega), ih (i + 1) k (by omega) (by omega) (by omega), rd_drop l i (by omega), rd_drop m i (by omega)]
    by_cases h : rd l i = rd m i
    · rw [if_pos h, h]; simp
    · rw [if_neg h]; simp [h]
theorem laws_eqIntS_ev (l m : List Int) (hl : l.length ≤ 9223372036854775806) : Ev (fun k => laws_eqIntS.f k l m) (decide (l = m)) := by
  unfold laws_eqIntS.f
  by_cases h : l.length = m.length
  · simp only [if_pos (show (l.length : Int) = m.length by omega)]
    exact ⟨l.length + 1, fun k hk => by simpa using laws_eqIntS_loop l m hl h.symm l.length 0 k (by omega) (by omega) (by omega)⟩
  · simp only [if_neg (show ¬ (l.length : Int) = m.length by omega)]
    refine Ev.const ?_
    congr 1; symm; rw [decide_eq_false_iff_not]; rintro rfl; exact h rfl
-- rd of a list
theorem rd_mem (l : List Int) (i : Nat) (h : i < l.length) : rd l i ∈ l := by
  simp [rd, List.getD_eq_getElem?_getD, List.getElem?_eq_getElem h]
-- downwards
theorem down_to {P : Nat → Prop} (n : Nat) (h0 : P n) (hs : ∀ i, i < n → P (i + 1) → P i) : ∀ i, i ≤ n → P i := by
  have key : ∀ d i, n - i = d → i ≤ n → P i := by
    intro d
    induction d with
    | zero => intro i hd hi; obtain rfl : i = n := by omega
              exact h0
    | succ d ih => intro i hd hi; exact hs i (by omega) (ih (i + 1) (by omega) (by omega))
  exact fun i hi => key (n - i) i rfl hi
-- sums
def isum : List Int → Int
  | [] => 0
  | x :: r => x + isum r
def okSide (x : Int) : Bool := decide (1 ≤ x ∧ x ≤ 8)
def sideOk (l : List Int) : Bool := decide (1 ≤ l.length ∧ l.length ≤ 4) && l.all okSide
theorem isum_bounds (l : List Int) (h : l.all okSide = true) : (l.length : Int) ≤ isum l ∧ isum l ≤ 8 * l.length := by
  induction l with
  | nil => simp [isum]
  | cons x r ih =>
    simp only [List.all_cons, Bool.and_eq_true, okSide, decide_eq_true_eq] at h
    have := ih h.2
    simp only [isum, List.length_cons]
    omega
theorem sideOk_bounds {l : List Int} (h : sideOk l = true) : 1 ≤ l.length ∧ l.length ≤ 4 ∧ (l.length : Int) ≤ isum l ∧ isum l ≤ 8 * l.length ∧ l.all okSide = true := by
  simp only [sideOk, Bool.and_eq_true, decide_eq_true_eq] at h
  have := isum_bounds l h.2
  exact ⟨h.1.1, h.1.2, this.1, this.2, h.2⟩
def sumIf (l : List Int) : Int := if sideOk l = true then isum l else 0
theorem sumIf_bounds (l : List Int) : 0 ≤ sumIf l ∧ sumIf l ≤ 32 := by
  unfold sumIf
  split
  · rename_i h
    have := sideOk_bounds h
    omega
  · omega
def squares (c r : List Int) : Int := sumIf c * sumIf r
theorem squares_bounds (c r : List Int) : 0 ≤ squares c r ∧ squares c r ≤ 1024 := by
  have h1 := sumIf_bounds c
  have h2 := sumIf_bounds r
  unfold squares
  constructor
  · exact Int.mul_nonneg h1.1 h2.1
  · have := Int.mul_le_mul h1.2 h2.2 h2.1 (by omega : (0 : Int) ≤ 32)
    omega
def levelSquares (n : Int) : Int := if n = 1 then 16 else if n = 2 then 64 else if n = 3 then 256 else 0
def seqOk (lv b : Int) (c r : List Int) : Bool := decide (1 ≤ squares c r ∧ squares c r ≤ levelSquares lv ∧ 3 ≤ b ∧ b ≤ 8)
-- spec l05Sum
theorem spec_l05Sum_loop (l : List Int) (hl : l.length ≤ 4) : ∀ i, i ≤ l.length → ∀ a : Int, 0 ≤ a → a ≤ 8 * i → Ev (fun k => spec_l05Sum.l0 k l a i) (if (l.drop i).all okSide = true then a + isum (l.drop i) else 0) := by
  refine down_to _ ?_ ?_
  · intro a h0 h1
    refine Ev.step (f := fun _ => some a) (fun k => by simp only [spec_l05Sum.l0]; rw [if_neg (by omega)]) ?_
    rw [List.drop_eq_nil_of_le (Nat.le_refl _)]
    simpa [isum] using Ev.some a
  · intro i hi ih a h0 h1
    refine Ev.step (fun k => by rw [spec_l05Sum.l0, if_pos (by omega), if_pos (by omega), spec_l01In_eq, Option.bind_some]) ?_
    rw [rd_drop l i hi]
    simp only [decide_eq_true_eq, List.all_cons, Bool.and_eq_true, okSide, isum]
    refine Ev.ite (fun hc => ?_) (fun hc => ?_)
    · rw [w64 (by omega) (by omega), w64_succ hi (by omega)]
      have := ih (a + rd l i) (by omega) (by omega)
      simp only [hc.1, hc.2, and_self, true_and]
      rw [show a + (rd l i + isum (l.drop (i + 1))) = a + rd l i + isum (l.drop (i + 1)) by omega]
      simpa [okSide] using this
    · simpa [hc] using Ev.some (0 : Int)
theorem spec_l05Sum_ev (l : List Int) : Ev (fun k => spec_l05Sum.f k l) (sumIf l) := by
  unfold spec_l05Sum.f sumIf sideOk
  by_cases h1 : l.length < 1
  · simp only [if_pos (show (l.length : Int) < 1 by omega)]
    refine Ev.step (f := fun _ => some 0) (fun k => by simp [spec_l05Sum.j0]) ?_
    simpa [show ¬ 1 ≤ l.length by omega] using Ev.some (0 : Int)
  · simp only [if_neg (show ¬ (l.length : Int) < 1 by omega)]
    by_cases h4 : l.length > 4
    · refine Ev.step (f := fun _ => some 0) (fun k => by simp [spec_l05Sum.j0]; omega) ?_
      simpa [show ¬ l.length ≤ 4 by omega] using Ev.some (0 : Int)
    · refine Ev.step (f := fun k => spec_l05Sum.l0 k l 0 0) (fun k => by simp [spec_l05Sum.j0]; omega) ?_
      have := spec_l05Sum_loop l (by omega) 0 (by omega) 0 (by omega) (by omega)
      simpa [show 1 ≤ l.length by omega, show l.length ≤ 4 by omega] using this
-- spec SquaresOf
theorem spec_SquaresOf_ev (a b : Int) (c r : List Int) : Ev (fun k => spec_SquaresOf.f k a b c r) (squares c r) := by
  unfold spec_SquaresOf.f
  refine Ev.bind (spec_l05Sum_ev c) (Ev.bind (spec_l05Sum_ev r) ?_)
  have h := squares_bounds c r
  unfold squares at h
  rw [w64 (by omega) (by omega)]
  exact Ev.some _
-- spec LevelSquares
theorem spec_LevelSquares_eq (n : Int) : spec_LevelSquares.f n = some (levelSquares n) := by
  unfold spec_LevelSquares.f levelSquares
  repeat' split
  all_goals rfl
-- spec SeqOk
theorem spec_SeqOk_ev (lv b : Int) (c r : List Int) : Ev (fun k => spec_SeqOk.f k lv b c r) (seqOk lv b c r) := by
  unfold spec_SeqOk.f seqOk
  refine Ev.bind (spec_SquaresOf_ev lv b c r) ?_
  simp only [spec_LevelSquares_eq, Option.bind_some, spec_l01In_eq, decide_eq_true_eq]
  refine Ev.const ?_
  split
  · congr 1; rw [decide_eq_decide]; omega
  · congr 1; symm; rw [decide_eq_false_iff_not]; omega
-- impl sumOf
theorem impl_sumOf_loop (l : List Int) (hl : l.length ≤ 4) (ha : l.all okSide = true) : ∀ i, i ≤ l.length → ∀ a : Int, 0 ≤ a → a ≤ 8 * i → Ev (fun k => impl_sumOf.l0 k a l (l.length : Int) i) (a + isum (l.drop i)) := by
  refine down_to _ ?_ ?_
  · intro a h0 h1
    refine Ev.step (f := fun _ => some a) (fun k => by simp only [impl_sumOf.l0]; rw [if_neg (by omega)]) ?_
    rw [List.drop_eq_nil_of_le (Nat.le_refl _)]
    simpa [isum] using Ev.some a
  · intro i hi ih a h0 h1
    have hr : 1 ≤ rd l i ∧ rd l i ≤ 8 := by
      have := List.all_eq_true.1 ha _ (rd_mem l i hi)
      simpa [okSide] using this
    refine Ev.step (fun k => by rw [impl_sumOf.l0, if_pos (by omega), if_pos (by omega), if_pos (by omega), w64 (by omega) (by omega), w64_succ hi (by omega)]) ?_
    rw [rd_drop l i hi]
    simp only [isum]
    rw [show a + (rd l i + isum (l.drop (i + 1))) = a + rd l i + isum (l.drop (i + 1)) by omega]
    exact ih _ (by omega) (by omega)
theorem impl_sumOf_ev (l : List Int) (hl : l.length ≤ 4) (ha : l.all okSide = true) : Ev (fun k => impl_sumOf.f k l) (isum l) := by
  unfold impl_sumOf.f
  simpa using impl_sumOf_loop l hl ha 0 (by omega) 0 (by omega) (by omega)
-- impl SquaresOf
theorem impl_SquaresOf_inner (L : List (List Int)) (n i : Int) (a b : Int) (c r : List Int) (l : List Int) (hl : l.length ≤ 4) (res : Int) (hn : (∃ d, wrap64 (i + 1) = d ∧ (l.all okSide = true → Ev (fun k => impl_SquaresOf.l0 k L n d a b c r) res))) (hbad : ¬ l.all okSide = true → res = 0) :
    ∀ j, j ≤ l.length → (l.take j).all okSide = true → Ev (fun k => impl_SquaresOf.l1 k L n i l (l.length : Int) j a b c r) res := by
  obtain ⟨d, hd, hn⟩ := hn
  refine down_to _ ?_ ?_
  · intro ht
    rw [List.take_length] at ht
    exact Ev.step (fun k => by rw [impl_SquaresOf.l1, if_neg (by omega), hd]) (hn ht)
  · intro j hj ih ht
    refine Ev.step (fun k => by rw [impl_SquaresOf.l1, if_pos (by omega), if_pos (by omega), if_pos (by omega), impl_within_eq, Option.bind_some, w64_succ hj (by omega)]) ?_
    simp only [decide_eq_true_eq]
    refine Ev.ite (fun hc => ?_) (fun hc => ?_)
    · refine ih ?_
      have e : l.take (j + 1) = l.take j ++ [rd l j] := by
        rw [List.take_succ_eq_append_getElem hj]
        simp [rd, List.getD_eq_getElem?_getD, List.getElem?_eq_getElem hj]
      rw [e, List.all_append, ht]
      simpa [okSide] using hc
    · rw [hbad (fun h => hc (by have := List.all_eq_true.1 h _ (rd_mem l j hj); simpa [okSide] using this))]
      exact Ev.some _
theorem impl_SquaresOf_ev (a b : Int) (c r : List Int) (hc : c.length ≤ 9223372036854775806) (hr : r.length ≤ 9223372036854775806) : Ev (fun k => impl_SquaresOf.f k a b c r) (squares c r) := by
  unfold impl_SquaresOf.f
  simp only [Option.bind_some, List.length_cons, List.length_nil]
  have r0 : rd_L1 [c, r] 0 = c := rfl
  have r1 : rd_L1 [c, r] 1 = r := rfl
  have e1 : wrap64 (0 + 1) = 1 := by unfold wrap64; omega
  have e2 : wrap64 (1 + 1) = 2 := by unfold wrap64; omega
  have bad : ∀ l m : List Int, ¬ sideOk l = true → sumIf l * sumIf m = 0 ∧ sumIf m * sumIf l = 0 := by
    intro l m h
    have : sumIf l = 0 := by unfold sumIf; rw [if_neg h]
    rw [this]; simp
  refine Ev.step (fun k => by rw [impl_SquaresOf.l0, if_pos (by simp), if_pos (by omega), if_pos (by simp), r0, impl_within_eq, Option.bind_some]) ?_
  simp only [decide_eq_true_eq]
  refine Ev.ite (fun h1 => ?_) (fun h1 => ?_)
  · refine impl_SquaresOf_inner [c, r] _ 0 a b c r c (by omega) _ ⟨1, e1, fun ha => ?_⟩ (fun hb => (bad c r (fun h => hb (sideOk_bounds h).2.2.2.2)).1) 0 (by omega) (by simp)
    refine Ev.step (fun k => by rw [impl_SquaresOf.l0, if_pos (by simp), if_pos (by omega), if_pos (by simp), r1, impl_within_eq, Option.bind_some]) ?_
    simp only [decide_eq_true_eq]
    refine Ev.ite (fun h2 => ?_) (fun h2 => ?_)
    · refine impl_SquaresOf_inner [c, r] _ 1 a b c r r (by omega) _ ⟨2, e2, fun hb => ?_⟩ (fun hb => (bad r c (fun h => hb (sideOk_bounds h).2.2.2.2)).2) 0 (by omega) (by simp)
      refine Ev.step (fun k => by rw [impl_SquaresOf.l0, if_neg (by simp)]) ?_
      refine Ev.bind (impl_sumOf_ev c (by omega) ha) (Ev.bind (impl_sumOf_ev r (by omega) hb) ?_)
      have s1 : sideOk c = true := by simp [sideOk, ha]; omega
      have s2 : sideOk r = true := by simp [sideOk, hb]; omega
      have h := squares_bounds c r
      unfold squares sumIf at h
      unfold sumIf
      rw [if_pos s1, if_pos s2] at h ⊢
      rw [w64 (by omega) (by omega)]
      exact Ev.some _
    · have : sumIf c * sumIf r = 0 := (bad r c (fun h => h2 (by have := sideOk_bounds h; omega))).2
      rw [this]; exact Ev.some _
  · have : squares c r = 0 := (bad c r (fun h => h1 (by have := sideOk_bounds h; omega))).1
    rw [this]; exact Ev.some _
-- impl LevelSquares
theorem impl_LevelSquares_eq (n : Int) : impl_LevelSquares.f n = some (levelSquares n) := by
  unfold impl_LevelSquares.f levelSquares
  simp only [impl_within_eq, Option.bind_some, decide_eq_true_eq]
  by_cases h : 1 ≤ n ∧ n ≤ 3
  · obtain rfl | rfl | rfl : n = 1 ∨ n = 2 ∨ n = 3 := by omega
    all_goals decide +kernel
  · rw [if_neg h, if_neg (by omega), if_neg (by omega), if_neg (by omega)]
-- impl SeqOk
theorem impl_SeqOk_ev (lv b : Int) (c r : List Int) (hc : c.length ≤ 9223372036854775806) (hr : r.length ≤ 9223372036854775806) : Ev (fun k => impl_SeqOk.f k lv b c r) (seqOk lv b c r) := by
  unfold impl_SeqOk.f seqOk
  refine Ev.bind (impl_SquaresOf_ev lv b c r hc hr) ?_
  simp only [impl_LevelSquares_eq, Option.bind_some, impl_within_eq, decide_eq_true_eq]
  refine Ev.const ?_
  split
  · congr 1; rw [decide_eq_decide]; omega
  · congr 1; symm; rw [decide_eq_false_iff_not]; omega
-- szIntS
theorem laws_szIntS_eq (l : List Int) (n : Int) (h0 : 0 ≤ n) (h1 : n ≤ 1048576) (hl : l.length ≤ 9223372036854775807) : laws_szIntS.f l n = some (if n < l.length then -1 else n - l.length) := by
  unfold laws_szIntS.f
  rw [w64 (by omega) (by omega)]
  split
  · rw [if_pos (by omega)]
  · rw [if_neg (by omega)]
-- ParOk
def parOk (q : Int) (l e : Bool) : Bool := decide (0 ≤ q ∧ q ≤ 40) && !(l && e)
-- ParOk impl
theorem impl_ParOk_eq (q : Int) (l e c : Bool) : impl_ParOk.f q l e c = some (parOk q l e) := by
  unfold impl_ParOk.f parOk
  simp only [impl_within_eq, Option.bind_some]
  cases decide (0 ≤ q ∧ q ≤ 40) <;> cases l <;> cases e <;> rfl
-- ParOk spec
theorem spec_ParOk_eq (q : Int) (l e c : Bool) : spec_ParOk.f q l e c = some (parOk q l e) := by
  unfold spec_ParOk.f parOk
  simp only [spec_l01In_eq, Option.bind_some]
  cases decide (0 ≤ q ∧ q ≤ 40) <;> cases l <;> cases e <;> rfl
-- TilesOf
def tilesOf (lv b : Int) (c r : List Int) : Int := if seqOk lv b c r = true then (c.length : Int) * r.length else 0
theorem seqOk_sides {lv b : Int} {c r : List Int} (h : seqOk lv b c r = true) : sideOk c = true ∧ sideOk r = true ∧ 3 ≤ b ∧ b ≤ 8 := by
  simp only [seqOk, decide_eq_true_eq] at h
  have hs : squares c r ≠ 0 := by omega
  unfold squares sumIf at hs
  refine ⟨?_, ?_, h.2.2.1, h.2.2.2⟩
  · refine Classical.byContradiction fun hn => hs ?_
    rw [if_neg hn]; simp
  · refine Classical.byContradiction fun hn => hs ?_
    rw [if_neg (c := sideOk r = true) hn]; simp
theorem tiles_bounds {lv b : Int} {c r : List Int} (h : seqOk lv b c r = true) : 1 ≤ (c.length : Int) * r.length ∧ (c.length : Int) * r.length ≤ 16 := by
  have hs := seqOk_sides h
  have h1 := sideOk_bounds hs.1
  have h2 := sideOk_bounds hs.2.1
  have e : ((c.length * r.length : Nat) : Int) = (c.length : Int) * r.length := Int.natCast_mul _ _
  have := Nat.mul_le_mul h1.2.1 h2.2.1
  have := Nat.mul_le_mul h1.1 h2.1
  omega
-- TilesOf impl
theorem impl_TilesOf_ev (lv b : Int) (c r : List Int) (hc : c.length ≤ 9223372036854775806) (hr : r.length ≤ 9223372036854775806) : Ev (fun k => impl_TilesOf.f k lv b c r) (tilesOf lv b c r) := by
  unfold impl_TilesOf.f tilesOf
  refine Ev.bind (impl_SeqOk_ev lv b c r hc hr) ?_
  split
  · rename_i h
    have := tiles_bounds h
    rw [w64 (by omega) (by omega)]; exact Ev.some _
  · exact Ev.some _
-- TilesOf spec
theorem spec_TilesOf_ev (lv b : Int) (c r : List Int) : Ev (fun k => spec_TilesOf.f k lv b c r) (tilesOf lv b c r) := by
  unfold spec_TilesOf.f tilesOf
  refine Ev.bind (spec_SeqOk_ev lv b c r) ?_
  split
  · rename_i h
    have := tiles_bounds h
    rw [w64 (by omega) (by omega)]; exact Ev.some _
  · exact Ev.some _
-- isNoSeq
def isNoSeq (lv b : Int) (c r : List Int) : Bool := decide (lv = 0 ∧ b = 0 ∧ c.length = 0 ∧ r.length = 0)
-- isNoSeq impl
theorem impl_isNoSeq_eq (lv b : Int) (c r : List Int) : impl_isNoSeq.f lv b c r = some (isNoSeq lv b c r) := by
  unfold impl_isNoSeq.f isNoSeq
  have e : ((r.length : Int) == 0) = decide (r.length = 0) := by rw [Bool.eq_iff_iff]; simp
  rw [e]
  repeat' split
  all_goals first | (simp_all; done) | (simp_all; rfl)
-- shifts
theorem shl_bits {b : Int} (h0 : 3 ≤ b) (h1 : b ≤ 8) : shl .i64 1 b = 2 ^ b.toNat ∧ 8 ≤ shl .i64 1 b ∧ shl .i64 1 b ≤ 256 ∧ IntKind.u64.wrap b = b := by
  obtain rfl | rfl | rfl | rfl | rfl | rfl : b = 3 ∨ b = 4 ∨ b = 5 ∨ b = 6 ∨ b = 7 ∨ b = 8 := by omega
  all_goals decide +kernel
-- szSeq
theorem laws_szSeq_eq (lv b : Int) (c r : List Int) (n : Int) (h0 : 0 ≤ n) (h1 : n ≤ 1048576) (hc : c.length ≤ 9223372036854775807) (hr : r.length ≤ 9223372036854775807) : ∃ t, laws_szSeq.f lv b c r n = some t ∧ (0 ≤ t → (c.length : Int) + r.length ≤ n) ∧ t ≤ n ∧ -1 ≤ t := by
  unfold laws_szSeq.f
  rw [laws_szIntS_eq _ _ h0 h1 hc]
  simp only [Option.bind_some]
  by_cases hx : n < c.length
  · exact ⟨-1, by rw [if_pos hx]; rfl, by omega, by omega, by omega⟩
  · rw [if_neg hx, if_neg (by omega), laws_szIntS_eq _ _ (by omega) (by omega) hr]
    simp only [Option.bind_some]
    by_cases hy : n - c.length < r.length
    · exact ⟨-1, by rw [if_pos hy]; rfl, by omega, by omega, by omega⟩
    · exact ⟨n - c.length - r.length, by rw [if_neg hy, if_neg (by omega)], by omega, by omega, by omega⟩
-- toSeq, eqSeq, eqPar
theorem laws_toSeq_ev (lv b : Int) (c r : List Int) (hc : c.length ≤ 35184372088832) (hr : r.length ≤ 35184372088832) : Ev (fun k => laws_toSeq.f k lv b c r) (lv, b, c, r) := by
  unfold laws_toSeq.f
  exact Ev.bind (laws_toIntS_ev c hc) (Ev.bind (laws_toIntS_ev r hr) (Ev.some _))
theorem laws_eqSeq_self (lv b : Int) (c r : List Int) (hc : c.length ≤ 35184372088832) (hr : r.length ≤ 35184372088832) : Ev (fun k => laws_eqSeq.f k lv b c r lv b c r) true := by
  unfold laws_eqSeq.f
  simp only [if_true]
  refine Ev.bind (laws_eqIntS_ev c c (by omega)) ?_
  simp only [decide_true, if_true]
  refine Ev.bind (laws_eqIntS_ev r r (by omega)) ?_
  simp only [decide_true, if_true]
  exact Ev.some _
theorem laws_eqPar_self (q : Int) (l e c : Bool) : laws_eqPar.f q l e c q l e c = some true := by simp [laws_eqPar.f]
-- PicOk value
def picOk (w h : Int) (d : ByteArray) : Bool := decide (1 ≤ w ∧ w ≤ 256 ∧ 1 ≤ h ∧ h ≤ 256 ∧ (d.size : Int) = w * h)
theorem picOk_iff (w h : Int) (d : ByteArray) : picOk w h d = true ↔ 1 ≤ w ∧ w ≤ 256 ∧ 1 ≤ h ∧ h ≤ 256 ∧ (d.size : Int) = w * h := by simp [picOk]
theorem mul_256 {w h : Int} (h1 : 1 ≤ w) (h2 : w ≤ 256) (h3 : 1 ≤ h) (h4 : h ≤ 256) : 1 ≤ w * h ∧ w * h ≤ 65536 := by
  have a := Int.mul_le_mul h2 h4 (by omega) (by omega : (0 : Int) ≤ 256)
  have b := Int.mul_le_mul h1 h3 (by omega) (by omega : (0 : Int) ≤ w)
  omega
-- PicOk impl
theorem impl_PicOk_eq (w h : Int) (d : ByteArray) : impl_PicOk.f w h d = some (picOk w h d) := by
  unfold impl_PicOk.f picOk
  simp only [impl_within_eq, Option.bind_some, decide_eq_true_eq]
  by_cases h1 : 1 ≤ w ∧ w ≤ 256
  · rw [if_pos h1]
    by_cases h2 : 1 ≤ h ∧ h ≤ 256
    · rw [if_pos h2]
      have := mul_256 h1.1 h1.2 h2.1 h2.2
      rw [w64 (by omega) (by omega), Option.some.injEq, Bool.eq_iff_iff]
      simp [h1, h2]
    · rw [if_neg h2, Option.some.injEq]; symm; rw [decide_eq_false_iff_not]; exact fun h => h2 ⟨h.2.2.1, h.2.2.2.1⟩
  · rw [if_neg h1, Option.some.injEq]; symm; rw [decide_eq_false_iff_not]; exact fun h => h1 ⟨h.1, h.2.1⟩
-- PicOk spec
theorem spec_PicOk_eq (w h : Int) (d : ByteArray) : spec_PicOk.f w h d = some (picOk w h d) := by
  unfold spec_PicOk.f picOk
  simp only [spec_l01In_eq, Option.bind_some, decide_eq_true_eq]
  by_cases h1 : 1 ≤ w ∧ w ≤ 256
  · rw [if_pos h1]
    by_cases h2 : 1 ≤ h ∧ h ≤ 256
    · rw [if_pos h2]
      have := mul_256 h1.1 h1.2 h2.1 h2.2
      rw [w64 (by omega) (by omega), Option.some.injEq, Bool.eq_iff_iff]
      simp [h1, h2]
    · rw [if_neg h2, Option.some.injEq]; symm; rw [decide_eq_false_iff_not]; exact fun h => h2 ⟨h.2.2.1, h.2.2.2.1⟩
  · rw [if_neg h1, Option.some.injEq]; symm; rw [decide_eq_false_iff_not]; exact fun h => h1 ⟨h.1, h.2.1⟩
-- SizeOf value
def sizeOfS (lv b : Int) (c r : List Int) : Int × Int := if seqOk lv b c r = true then (8 * isum c, 8 * isum r) else (0, 0)
-- SizeOf impl
theorem impl_SizeOf_ev (lv b : Int) (c r : List Int) (hc : c.length ≤ 9223372036854775806) (hr : r.length ≤ 9223372036854775806) : Ev (fun k => impl_SizeOf.f k lv b c r) (sizeOfS lv b c r) := by
  unfold impl_SizeOf.f sizeOfS
  refine Ev.bind (impl_SeqOk_ev lv b c r hc hr) ?_
  split
  · rename_i h
    have hs := seqOk_sides h
    have h1 := sideOk_bounds hs.1
    have h2 := sideOk_bounds hs.2.1
    refine Ev.bind (impl_sumOf_ev c h1.2.1 h1.2.2.2.2) (Ev.bind (impl_sumOf_ev r h2.2.1 h2.2.2.2.2) ?_)
    rw [w64 (by omega) (by omega), w64 (by omega) (by omega)]
    exact Ev.some _
  · exact Ev.some _
-- SizeOf spec
theorem spec_SizeOf_ev (lv b : Int) (c r : List Int) : Ev (fun k => spec_SizeOf.f k lv b c r) (sizeOfS lv b c r) := by
  unfold spec_SizeOf.f sizeOfS
  refine Ev.bind (spec_SeqOk_ev lv b c r) ?_
  split
  · rename_i h
    have hs := seqOk_sides h
    have h1 := sideOk_bounds hs.1
    have h2 := sideOk_bounds hs.2.1
    have e1 := spec_l05Sum_ev c
    have e2 := spec_l05Sum_ev r
    rw [sumIf, if_pos hs.1] at e1
    rw [sumIf, if_pos hs.2.1] at e2
    refine Ev.bind e1 (Ev.bind e2 ?_)
    rw [w64 (by omega) (by omega), w64 (by omega) (by omega)]
    exact Ev.some _
  · exact Ev.some _
-- fits
def fitsS (w h : Int) (d : ByteArray) (lv b : Int) (c r : List Int) : Bool := picOk w h d && (w == (sizeOfS lv b c r).1) && (h == (sizeOfS lv b c r).2)
-- fits impl
theorem impl_fits_ev (w h : Int) (d : ByteArray) (lv b : Int) (c r : List Int) (hc : c.length ≤ 9223372036854775806) (hr : r.length ≤ 9223372036854775806) : Ev (fun k => impl_fits.f k w h d lv b c r) (fitsS w h d lv b c r) := by
  unfold impl_fits.f fitsS
  refine Ev.bind (impl_SizeOf_ev lv b c r hc hr) ?_
  simp only [impl_PicOk_eq, Option.bind_some]
  refine Ev.const ?_
  cases picOk w h d
  · rfl
  · by_cases h1 : w = (sizeOfS lv b c r).1
    · simp [h1]
    · simp [h1]
-- fits spec
theorem spec_l20Sized_ev (w h : Int) (d : ByteArray) (lv b : Int) (c r : List Int) : Ev (fun k => spec_l20Sized.f k w h d lv b c r) (fitsS w h d lv b c r) := by
  unfold spec_l20Sized.f fitsS
  refine Ev.bind (spec_SizeOf_ev lv b c r) ?_
  simp only [spec_PicOk_eq, Option.bind_some]
  refine Ev.const ?_
  cases picOk w h d
  · rfl
  · by_cases h1 : w = (sizeOfS lv b c r).1
    · simp [h1]
    · simp [h1]
-- no picture
def noPic (w h : Int) (d : ByteArray) : Bool := w == 0 && (h == 0 && (d.toList == ([] : List UInt8)))
theorem toList_loop (d : ByteArray) (n : Nat) : ∀ (i : Nat) (r : List UInt8), d.size - i = n → i ≤ d.size → (ByteArray.toList.loop d i r).length = r.length + (d.size - i) := by
  induction n with
  | zero =>
    intro i r h hi
    unfold ByteArray.toList.loop
    rw [if_neg (by omega)]
    simp; omega
  | succ n ih =>
    intro i r h hi
    unfold ByteArray.toList.loop
    rw [if_pos (by omega), ih (i + 1) (d.get! i :: r) (by omega) (by omega)]
    simp; omega
theorem toList_size (d : ByteArray) : d.toList.length = d.size := by
  unfold ByteArray.toList
  rw [toList_loop d _ 0 [] rfl (Nat.zero_le _)]; simp
theorem toList_nil_size (d : ByteArray) : (d.toList == ([] : List UInt8)) = ((d.size : Int) == 0) := by
  have e : d.toList.length = d.size := toList_size d
  rw [Bool.eq_iff_iff]
  simp only [beq_iff_eq]
  constructor
  · intro h; rw [h] at e; simp at e; omega
  · intro h; exact List.eq_nil_of_length_eq_zero (by omega)
-- no picture spec
theorem spec_l20None_eq (w h : Int) (d : ByteArray) : spec_l20None.f w h d = some (noPic w h d) := by
  unfold spec_l20None.f noPic
  rw [toList_nil_size]
  by_cases h1 : w = 0
  · by_cases h2 : h = 0
    · simp [h1, h2]
    · simp [h1, h2]
  · simp [h1]
-- DecOk value
def decTail (hr : Bool) (lv b : Int) (c r : List Int) (pw ph : Int) (pd : ByteArray) : Bool := if hr = true then fitsS pw ph pd lv b c r else noPic pw ph pd
def decNow (lv b : Int) (c r : List Int) (f g nw nh : Int) (nd : ByteArray) : Bool := if g > 0 then !(f == -1) && fitsS nw nh nd lv b c r else noPic nw nh nd
def decPar (hp hr : Bool) (q : Int) (l e cf : Bool) (g : Int) : Bool := if hp = true then parOk q l e else (q == 0 && (!l && (!e && !cf))) && (g == 0) && !hr
def decOk (hs hp hr : Bool) (lv b : Int) (c r : List Int) (q : Int) (l e cf : Bool) (f g nw nh : Int) (nd : ByteArray) (pw ph : Int) (pd : ByteArray) : Bool :=
  if hs = true then seqOk lv b c r && decPar hp hr q l e cf g && decide (-1 ≤ f ∧ f < shl .i64 1 b) && decide (0 ≤ g ∧ g < tilesOf lv b c r) && decNow lv b c r f g nw nh nd && decTail hr lv b c r pw ph pd
  else !hp && !hr && isNoSeq lv b c r && (q == 0 && (!l && (!e && !cf))) && (f == -1) && (g == 0) && noPic nw nh nd && noPic pw ph pd
-- DecOk spec
theorem spec_DecOk_j2 (x : Bool) (hs hp hr : Bool) (lv b : Int) (c r : List Int) (q : Int) (l e cf : Bool) (f g nw nh : Int) (nd : ByteArray) (pw ph : Int) (pd : ByteArray) : Ev (fun k => spec_DecOk.j2 k x hs hp hr lv b c r q l e cf f g nw nh nd pw ph pd) (!x && decTail hr lv b c r pw ph pd) := by
  cases x
  · refine Ev.step (fun k => by rw [spec_DecOk.j2, if_neg (by decide)]) ?_
    unfold decTail
    cases hr
    · simp only [Bool.false_eq_true, if_false, spec_l20None_eq, Option.bind_some, Bool.not_false, Bool.true_and]
      exact Ev.some _
    · simp only [if_true, Bool.not_false, Bool.true_and]
      refine Ev.bind (spec_l20Sized_ev _ _ _ _ _ _ _) (Ev.const ?_)
      cases fitsS pw ph pd lv b c r <;> rfl
  · simp only [Bool.not_true, Bool.false_and]
    exact Ev.step (fun k => by rw [spec_DecOk.j2, if_pos rfl]) (Ev.some _)
theorem spec_DecOk_j1 (x : Bool) (hs hp hr : Bool) (lv b : Int) (c r : List Int) (q : Int) (l e cf : Bool) (f g nw nh : Int) (nd : ByteArray) (pw ph : Int) (pd : ByteArray) (hg : 0 ≤ g ∨ x = true) : Ev (fun k => spec_DecOk.j1 k x hs hp hr lv b c r q l e cf f g nw nh nd pw ph pd) (!x && decNow lv b c r f g nw nh nd && decTail hr lv b c r pw ph pd) := by
  cases x
  · refine Ev.step (fun k => by rw [spec_DecOk.j1, if_neg (by decide)]) ?_
    have hg0 : 0 ≤ g := hg.elim id (fun h => by cases h)
    unfold decNow
    by_cases h1 : g > 0
    · simp only [if_pos h1]
      by_cases h2 : f = -1
      · simp only [if_pos h2]
        simpa [h2] using spec_DecOk_j2 true hs hp hr lv b c r q l e cf f g nw nh nd pw ph pd
      · simp only [if_neg h2]
        refine Ev.bind (spec_l20Sized_ev _ _ _ _ _ _ _) ?_
        cases hf : fitsS nw nh nd lv b c r
        · simpa [hf] using spec_DecOk_j2 true hs hp hr lv b c r q l e cf f g nw nh nd pw ph pd
        · simp only [if_true]
          refine Ev.neg (show ¬ g = 0 by omega) ?_
          simpa [hf, (beq_eq_false_iff_ne.mpr h2 : (f == -1) = false)] using spec_DecOk_j2 false hs hp hr lv b c r q l e cf f g nw nh nd pw ph pd
    · simp only [if_neg h1]
      refine Ev.pos (show g = 0 by omega) ?_
      simp only [spec_l20None_eq, Option.bind_some]
      have := spec_DecOk_j2 (!noPic nw nh nd) hs hp hr lv b c r q l e cf f g nw nh nd pw ph pd
      simpa using this
  · simp only [Bool.not_true, Bool.false_and]
    exact Ev.step (fun k => by rw [spec_DecOk.j1, if_pos rfl]) (Ev.some _)
theorem spec_DecOk_j0 (x : Bool) (hs hp hr : Bool) (lv b : Int) (c r : List Int) (q : Int) (l e cf : Bool) (f g nw nh : Int) (nd : ByteArray) (pw ph : Int) (pd : ByteArray) (hq : x = true ∨ seqOk lv b c r = true) : Ev (fun k => spec_DecOk.j0 k x hs hp hr lv b c r q l e cf f g nw nh nd pw ph pd) (!x && decide (-1 ≤ f ∧ f < shl .i64 1 b) && (decide (0 ≤ g ∧ g < tilesOf lv b c r) && (hp || (g == 0 && !hr)) && decNow lv b c r f g nw nh nd && decTail hr lv b c r pw ph pd)) := by
  cases x
  · refine Ev.step (fun k => by rw [spec_DecOk.j0, if_neg (by decide)]) ?_
    have hk := seqOk_sides (hq.elim (fun h => by cases h) id)
    have hb := shl_bits hk.2.2.1 hk.2.2.2
    rw [hb.2.2.2]
    have no := spec_DecOk_j1 true hs hp hr lv b c r q l e cf f g nw nh nd pw ph pd (.inr rfl)
    simp only [Bool.not_true, Bool.false_and] at no
    by_cases h1 : f < -1
    · simp only [if_pos h1]
      simpa [show ¬ -1 ≤ f by omega] using no
    simp only [if_neg h1, if_pos (show 0 ≤ b by omega)]
    by_cases h2 : f ≥ shl .i64 1 b
    · simp only [if_pos h2]
      simpa [show ¬ f < shl .i64 1 b by omega] using no
    simp only [if_neg h2]
    by_cases h3 : g < 0
    · simp only [if_pos h3]
      simpa [show ¬ 0 ≤ g by omega] using no
    simp only [if_neg h3]
    refine Ev.bind (spec_TilesOf_ev lv b c r) ?_
    by_cases h4 : g ≥ tilesOf lv b c r
    · simp only [if_pos h4]
      simpa [show ¬ g < tilesOf lv b c r by omega] using no
    simp only [if_neg h4]
    have y := spec_DecOk_j1 false hs hp hr lv b c r q l e cf f g nw nh nd pw ph pd (.inl (by omega))
    have t1 : (decide (-1 ≤ f ∧ f < shl .i64 1 b)) = true := decide_eq_true (by omega)
    have t2 : (decide (0 ≤ g ∧ g < tilesOf lv b c r)) = true := decide_eq_true (by omega)
    rw [t1, t2]
    cases hp
    · simp only [Bool.false_eq_true, if_false, Bool.not_false, Bool.true_and, Bool.false_or]
      by_cases h5 : g > 0
      · simp only [if_pos h5]
        simpa [(beq_eq_false_iff_ne.mpr (by omega) : (g == 0) = false)] using no
      · simp only [if_neg h5]
        cases hr
        · simpa [show g = 0 by omega] using y
        · simpa using no
    · simpa using y
  · simp only [Bool.not_true, Bool.false_and]
    exact Ev.step (fun k => by rw [spec_DecOk.j0, if_pos rfl]) (Ev.some _)
theorem spec_DecOk_ev (hs hp hr : Bool) (lv b : Int) (c r : List Int) (q : Int) (l e cf : Bool) (f g nw nh : Int) (nd : ByteArray) (pw ph : Int) (pd : ByteArray) : Ev (fun k => spec_DecOk.f k hs hp hr lv b c r q l e cf f g nw nh nd pw ph pd) (decOk hs hp hr lv b c r q l e cf f g nw nh nd pw ph pd) := by
  unfold spec_DecOk.f decOk
  cases hs
  · simp only [Bool.false_eq_true, if_false, spec_l20None_eq, Option.bind_some]
    refine Ev.const ?_
    cases hp <;> cases hr <;> simp only [Bool.false_eq_true, if_false, if_true, Bool.not_false, Bool.not_true, Bool.true_and, Bool.false_and]
    generalize noPic nw nh nd = z1
    generalize noPic pw ph pd = z2
    generalize (q == 0 && (!l && (!e && !cf))) = z3
    unfold isNoSeq
    cases z1 <;> cases z2 <;> cases z3 <;> simp <;> (repeat' split) <;> simp_all
  · simp only [if_true]
    refine Ev.bind (spec_SeqOk_ev lv b c r) ?_
    cases hq : seqOk lv b c r
    · simp only [Bool.false_eq_true, if_false, Bool.false_and]
      simpa using spec_DecOk_j0 true true hp hr lv b c r q l e cf f g nw nh nd pw ph pd (.inl rfl)
    · simp only [if_true, Bool.true_and]
      cases hp
      · simp only [Bool.false_eq_true, if_false]
        have := spec_DecOk_j0 (!(q == 0) || (l || (e || cf))) true false hr lv b c r q l e cf f g nw nh nd pw ph pd (.inr hq)
        unfold decPar
        by_cases hz : q = 0
        · have hzb : (q == 0) = true := beq_iff_eq.mpr hz
          by_cases hy : g = 0
          · have hyb : (g == 0) = true := beq_iff_eq.mpr hy
            cases l <;> cases e <;> cases cf <;> cases hr <;> (simp [hzb, hz, hyb, hy, Bool.and_assoc] at this ⊢; exact this)
          · have hyb : (g == 0) = false := beq_eq_false_iff_ne.mpr hy
            cases l <;> cases e <;> cases cf <;> cases hr <;> (simp [hzb, hz, hyb, hy, Bool.and_assoc] at this ⊢; exact this)
        · have hzb : (q == 0) = false := beq_eq_false_iff_ne.mpr hz
          simp [hzb, hz, Bool.and_assoc] at this ⊢; exact this
      · simp only [if_true, spec_ParOk_eq, Option.bind_some]
        unfold decPar
        cases hz : parOk q l e
        · simpa using spec_DecOk_j0 true true true hr lv b c r q l e cf f g nw nh nd pw ph pd (.inl rfl)
        · simpa [Bool.and_assoc] using spec_DecOk_j0 false true true hr lv b c r q l e cf f g nw nh nd pw ph pd (.inr hq)
-- DecOk impl
theorem impl_DecOk_j2 (x : Bool) (hs hp hr : Bool) (lv b : Int) (c r : List Int) (q : Int) (l e cf : Bool) (f g nw nh : Int) (nd : ByteArray) (pw ph : Int) (pd : ByteArray) (hc : c.length ≤ 9223372036854775806) (hr' : r.length ≤ 9223372036854775806) : Ev (fun k => impl_DecOk.j2 k x hs hp hr lv b c r q l e cf f g nw nh nd pw ph pd) (!x && decTail hr lv b c r pw ph pd) := by
  cases x
  · refine Ev.step (fun k => by rw [impl_DecOk.j2, if_neg (by decide)]) ?_
    unfold decTail
    cases hr
    · simp only [Bool.false_eq_true, if_false, Bool.not_false, Bool.true_and]
      exact Ev.some _
    · simp only [if_true, Bool.not_false, Bool.true_and]
      exact Ev.bind (impl_fits_ev _ _ _ _ _ _ _ hc hr') (Ev.some _)
  · simp only [Bool.not_true, Bool.false_and]
    exact Ev.step (fun k => by rw [impl_DecOk.j2, if_pos rfl]) (Ev.some _)
theorem noPic_not (w h : Int) (d : ByteArray) : (!(w == 0) || (!(h == 0) || (!(d.toList == ([] : List UInt8))))) = !noPic w h d := by
  unfold noPic
  cases (w == 0) <;> cases (h == 0) <;> cases (d.toList == ([] : List UInt8)) <;> rfl
theorem impl_DecOk_j1 (x : Bool) (hs hp hr : Bool) (lv b : Int) (c r : List Int) (q : Int) (l e cf : Bool) (f g nw nh : Int) (nd : ByteArray) (pw ph : Int) (pd : ByteArray) (hc : c.length ≤ 9223372036854775806) (hr' : r.length ≤ 9223372036854775806) (hg : 0 ≤ g ∨ x = true) : Ev (fun k => impl_DecOk.j1 k x hs hp hr lv b c r q l e cf f g nw nh nd pw ph pd) (!x && decNow lv b c r f g nw nh nd && decTail hr lv b c r pw ph pd) := by
  cases x
  · refine Ev.step (fun k => by rw [impl_DecOk.j1, if_neg (by decide)]) ?_
    have hg0 : 0 ≤ g := hg.elim id (fun h => by cases h)
    unfold decNow
    by_cases h1 : g > 0
    · simp only [if_pos h1]
      by_cases h2 : f = -1
      · simp only [if_pos h2]
        simpa [h2] using impl_DecOk_j2 true hs hp hr lv b c r q l e cf f g nw nh nd pw ph pd hc hr'
      · simp only [if_neg h2]
        refine Ev.bind (impl_fits_ev _ _ _ _ _ _ _ hc hr') ?_
        cases hf : fitsS nw nh nd lv b c r
        · simpa [hf] using impl_DecOk_j2 true hs hp hr lv b c r q l e cf f g nw nh nd pw ph pd hc hr'
        · simp only [if_true]
          refine Ev.neg (show ¬ g = 0 by omega) ?_
          simpa [hf, (beq_eq_false_iff_ne.mpr h2 : (f == -1) = false)] using impl_DecOk_j2 false hs hp hr lv b c r q l e cf f g nw nh nd pw ph pd hc hr'
    · simp only [if_neg h1]
      refine Ev.pos (show g = 0 by omega) ?_
      rw [noPic_not]
      have := impl_DecOk_j2 (!noPic nw nh nd) hs hp hr lv b c r q l e cf f g nw nh nd pw ph pd hc hr'
      simpa using this
  · simp only [Bool.not_true, Bool.false_and]
    exact Ev.step (fun k => by rw [impl_DecOk.j1, if_pos rfl]) (Ev.some _)
theorem impl_DecOk_j0 (x : Bool) (hs hp hr : Bool) (lv b : Int) (c r : List Int) (q : Int) (l e cf : Bool) (f g nw nh : Int) (nd : ByteArray) (pw ph : Int) (pd : ByteArray) (hc : c.length ≤ 9223372036854775806) (hr' : r.length ≤ 9223372036854775806) (hq : x = true ∨ seqOk lv b c r = true) : Ev (fun k => impl_DecOk.j0 k x hs hp hr lv b c r q l e cf f g nw nh nd pw ph pd) (!x && decide (-1 ≤ f ∧ f < shl .i64 1 b) && (decide (0 ≤ g ∧ g < tilesOf lv b c r) && decNow lv b c r f g nw nh nd && decTail hr lv b c r pw ph pd)) := by
  cases x
  · refine Ev.step (fun k => by rw [impl_DecOk.j0, if_neg (by decide)]) ?_
    have hsq := hq.elim (fun h => by cases h) id
    have hk := seqOk_sides hsq
    have hb := shl_bits hk.2.2.1 hk.2.2.2
    have htl : 1 ≤ tilesOf lv b c r ∧ tilesOf lv b c r ≤ 16 := by unfold tilesOf; rw [if_pos hsq]; exact tiles_bounds hsq
    have no := impl_DecOk_j1 true hs hp hr lv b c r q l e cf f g nw nh nd pw ph pd hc hr' (.inr rfl)
    simp only [Bool.not_true, Bool.false_and] at no
    simp only [if_pos (show 0 ≤ b by omega), impl_within_eq, Option.bind_some, decide_eq_true_eq]
    rw [w64 (by omega) (by omega)]
    by_cases h1 : -1 ≤ f ∧ f ≤ shl .i64 1 b - 1
    · simp only [if_pos h1]
      refine Ev.bind (impl_TilesOf_ev lv b c r hc hr') ?_
      rw [w64 (by omega) (by omega)]
      have t1 : (decide (-1 ≤ f ∧ f < shl .i64 1 b)) = true := decide_eq_true (by omega)
      rw [t1]
      by_cases h2 : 0 ≤ g ∧ g ≤ tilesOf lv b c r - 1
      · have t2 : (decide (0 ≤ g ∧ g < tilesOf lv b c r)) = true := decide_eq_true (by omega)
        rw [t2, decide_eq_true h2]
        simpa using impl_DecOk_j1 false hs hp hr lv b c r q l e cf f g nw nh nd pw ph pd hc hr' (.inl h2.1)
      · have t2 : (decide (0 ≤ g ∧ g < tilesOf lv b c r)) = false := decide_eq_false (by omega)
        rw [t2, decide_eq_false h2]
        simpa using no
    · simp only [if_neg h1]
      have t1 : (decide (-1 ≤ f ∧ f < shl .i64 1 b)) = false := decide_eq_false (by omega)
      rw [t1]
      simpa using no
  · simp only [Bool.not_true, Bool.false_and]
    exact Ev.step (fun k => by rw [impl_DecOk.j0, if_pos rfl]) (Ev.some _)
theorem impl_DecOk_ev (hs hp hr : Bool) (lv b : Int) (c r : List Int) (q : Int) (l e cf : Bool) (f g nw nh : Int) (nd : ByteArray) (pw ph : Int) (pd : ByteArray) (hc : c.length ≤ 9223372036854775806) (hr' : r.length ≤ 9223372036854775806) : Ev (fun k => impl_DecOk.f k hs hp hr lv b c r q l e cf f g nw nh nd pw ph pd) (decOk hs hp hr lv b c r q l e cf f g nw nh nd pw ph pd) := by
  unfold impl_DecOk.f decOk
  cases hs
  · simp only [Bool.false_eq_true, if_false, impl_isNoSeq_eq, Option.bind_some]
    refine Ev.const ?_
    cases hp <;> cases hr <;> simp only [Bool.false_eq_true, if_false, if_true, Bool.not_false, Bool.not_true, Bool.true_and, Bool.false_and]
    rw [show (nw == 0 && (nh == 0 && (nd.toList == ([] : List UInt8)))) = noPic nw nh nd from rfl, show (pw == 0 && (ph == 0 && (pd.toList == ([] : List UInt8)))) = noPic pw ph pd from rfl]
    generalize noPic nw nh nd = z1
    generalize noPic pw ph pd = z2
    generalize (q == 0 && (!l && (!e && !cf))) = z3
    generalize isNoSeq lv b c r = z4
    cases z1 <;> cases z2 <;> cases z3 <;> cases z4 <;> simp <;> (repeat' split) <;> simp_all
  · simp only [if_true]
    refine Ev.bind (impl_SeqOk_ev lv b c r hc hr') ?_
    cases hq : seqOk lv b c r
    · simp only [Bool.false_eq_true, if_false, Bool.false_and]
      simpa using impl_DecOk_j0 true true hp hr lv b c r q l e cf f g nw nh nd pw ph pd hc hr' (.inl rfl)
    · simp only [if_true, Bool.true_and]
      cases hp
      · simp only [Bool.false_eq_true, if_false]
        have n0 := impl_DecOk_j0 true true false hr lv b c r q l e cf f g nw nh nd pw ph pd hc hr' (.inl rfl)
        have y0 := impl_DecOk_j0 hr true false hr lv b c r q l e cf f g nw nh nd pw ph pd hc hr' (.inr hq)
        unfold decPar
        by_cases hz : q = 0
        · have hzb : (q == 0) = true := beq_iff_eq.mpr hz
          by_cases hy : g = 0
          · have hyb : (g == 0) = true := beq_iff_eq.mpr hy
            cases l <;> cases e <;> cases cf <;> cases hr <;> (simp [hzb, hz, hyb, hy, Bool.and_assoc] at n0 y0 ⊢; first | exact y0 | exact n0)
          · have hyb : (g == 0) = false := beq_eq_false_iff_ne.mpr hy
            cases l <;> cases e <;> cases cf <;> cases hr <;> (simp [hzb, hz, hyb, hy, Bool.and_assoc] at n0 y0 ⊢; first | exact n0 | exact y0)
        · have hzb : (q == 0) = false := beq_eq_false_iff_ne.mpr hz
          simp [hzb, hz, Bool.and_assoc] at n0 y0 ⊢; exact n0
      · simp only [if_true, impl_ParOk_eq, Option.bind_some]
        unfold decPar
        cases hz : parOk q l e
        · simpa using impl_DecOk_j0 true true true hr lv b c r q l e cf f g nw nh nd pw ph pd hc hr' (.inl rfl)
        · simpa [Bool.and_assoc] using impl_DecOk_j0 false true true hr lv b c r q l e cf f g nw nh nd pw ph pd hc hr' (.inr hq)
-- szPic, toPic, eqPic
theorem laws_szPic_eq (w h : Int) (d : ByteArray) (n : Int) (h0 : 0 ≤ n) (h1 : n ≤ 1048576) (hd : d.size ≤ 9223372036854775807) : ∃ t, laws_szPic.f w h d n = some t ∧ (0 ≤ t → (d.size : Int) ≤ n) ∧ t ≤ n ∧ -1 ≤ t := by
  unfold laws_szPic.f
  rw [w64 (by omega) (by omega)]
  by_cases hn : n - (d.size : Int) < 0
  · exact ⟨-1, by rw [if_pos hn], by omega, by omega, by omega⟩
  · exact ⟨n - (d.size : Int), by rw [if_neg hn], by omega, by omega, by omega⟩
-- eqPic
theorem laws_eqPic_self (w h : Int) (d : ByteArray) : laws_eqPic.f w h d w h d = some true := by simp [laws_eqPic.f]
-- szDecoder, toDecoder, eqDecoder
theorem laws_szDecoder_eq (hs hp hr : Bool) (lv b : Int) (c r : List Int) (q : Int) (l e cf : Bool) (f g nw nh : Int) (nd : ByteArray) (pw ph : Int) (pd : ByteArray) (n : Int) (h0 : 0 ≤ n) (h1 : n ≤ 1048576) (hc : c.length ≤ 9223372036854775807) (hr' : r.length ≤ 9223372036854775807) (y1 : nd.size ≤ 9223372036854775807) (y2 : pd.size ≤ 9223372036854775807) : ∃ t, laws_szDecoder.f hs hp hr lv b c r q l e cf f g nw nh nd pw ph pd n = some t ∧ (0 ≤ t → (c.length : Int) + r.length + nd.size + pd.size ≤ n + n + n) ∧ t ≤ n ∧ -1 ≤ t := by
  unfold laws_szDecoder.f
  obtain ⟨t, ht, k1, k2, k3⟩ := laws_szSeq_eq lv b c r n h0 h1 hc hr'
  rw [ht]; simp only [Option.bind_some]
  by_cases ht0 : t < 0
  · exact ⟨-1, by rw [if_pos ht0], by omega, by omega, by omega⟩
  rw [if_neg ht0]
  obtain ⟨u, hu, k4, k5, k6⟩ := laws_szPic_eq nw nh nd t (by omega) (by omega) y1
  rw [hu]; simp only [Option.bind_some]
  by_cases hu0 : u < 0
  · exact ⟨-1, by rw [if_pos hu0], by omega, by omega, by omega⟩
  rw [if_neg hu0]
  obtain ⟨v, hv, k7, k8, k9⟩ := laws_szPic_eq pw ph pd u (by omega) (by omega) y2
  rw [hv]; simp only [Option.bind_some]
  by_cases hv0 : v < 0
  · exact ⟨-1, by rw [if_pos hv0], by omega, by omega, by omega⟩
  exact ⟨v, by rw [if_neg hv0], by omega, by omega, by omega⟩
theorem laws_toDecoder_ev (hs hp hr : Bool) (lv b : Int) (c r : List Int) (q : Int) (l e cf : Bool) (f g nw nh : Int) (nd : ByteArray) (pw ph : Int) (pd : ByteArray) (hc : c.length ≤ 35184372088832) (hr' : r.length ≤ 35184372088832) : Ev (fun k => laws_toDecoder.f k hs hp hr lv b c r q l e cf f g nw nh nd pw ph pd) (hs, hp, hr, lv, b, c, r, q, l, e, cf, f, g, nw, nh, nd, pw, ph, pd) := by
  unfold laws_toDecoder.f laws_toPar.f laws_toPic.f
  exact Ev.bind (laws_toSeq_ev lv b c r hc hr') (Ev.some _)
theorem laws_eqDecoder_self (hs hp hr : Bool) (lv b : Int) (c r : List Int) (q : Int) (l e cf : Bool) (f g nw nh : Int) (nd : ByteArray) (pw ph : Int) (pd : ByteArray) (hc : c.length ≤ 35184372088832) (hr' : r.length ≤ 35184372088832) : Ev (fun k => laws_eqDecoder.f k hs hp hr lv b c r q l e cf f g nw nh nd pw ph pd hs hp hr lv b c r q l e cf f g nw nh nd pw ph pd) true := by
  unfold laws_eqDecoder.f
  simp only [bne_self_eq_false, Bool.false_eq_true, if_false, if_true, laws_eqPar_self, laws_eqPic_self, Option.bind_some]
  exact Ev.bind (laws_eqSeq_self lv b c r hc hr') (by simp only [if_true]; exact Ev.some _)
-- LAW FnExactDecOk
theorem FnExactDecOk (a0_0 a0_1 a0_2 : Bool) (a0_3 a0_4 : Int) (l0_5 l0_6 : List Int) (a0_7 : Int) (a0_8 a0_9 a0_10 : Bool) (a0_11 a0_12 a0_13 a0_14 : Int) (a0_15 : ByteArray) (a0_16 a0_17 : Int) (a0_18 : ByteArray) (m0_5 : l0_5.length ≤ maxLen) (m0_6 : l0_6.length ≤ maxLen) (y0_15 : a0_15.size ≤ maxLen) (y0_18 : a0_18.size ≤ maxLen) :
    ∃ k, laws_FnExactDecOk.f k a0_0 a0_1 a0_2 a0_3 a0_4 l0_5 l0_6 a0_7 a0_8 a0_9 a0_10 a0_11 a0_12 a0_13 a0_14 a0_15 a0_16 a0_17 a0_18 = some true := by
  refine Ev.rounds (g := fun k => laws_FnExactDecOk.f k a0_0 a0_1 a0_2 a0_3 a0_4 l0_5 l0_6 a0_7 a0_8 a0_9 a0_10 a0_11 a0_12 a0_13 a0_14 a0_15 a0_16 a0_17 a0_18) ?_
  unfold laws_FnExactDecOk.f
  simp only [maxLen] at m0_5 m0_6 y0_15 y0_18
  obtain ⟨t, ht, h1, h2, _⟩ := laws_szDecoder_eq a0_0 a0_1 a0_2 a0_3 a0_4 l0_5 l0_6 a0_7 a0_8 a0_9 a0_10 a0_11 a0_12 a0_13 a0_14 a0_15 a0_16 a0_17 a0_18 1048576 (by omega) (by omega) (by omega) (by omega) (by omega) (by omega)
  rw [ht]
  simp only [Option.bind_some]
  refine Ev.ite (fun _ => Ev.some _) (fun h => ?_)
  have h3 := h1 (by omega)
  have hq := laws_toDecoder_ev a0_0 a0_1 a0_2 a0_3 a0_4 l0_5 l0_6 a0_7 a0_8 a0_9 a0_10 a0_11 a0_12 a0_13 a0_14 a0_15 a0_16 a0_17 a0_18 (by omega) (by omega)
  have e1 := spec_DecOk_ev a0_0 a0_1 a0_2 a0_3 a0_4 l0_5 l0_6 a0_7 a0_8 a0_9 a0_10 a0_11 a0_12 a0_13 a0_14 a0_15 a0_16 a0_17 a0_18
  have e2 := impl_DecOk_ev a0_0 a0_1 a0_2 a0_3 a0_4 l0_5 l0_6 a0_7 a0_8 a0_9 a0_10 a0_11 a0_12 a0_13 a0_14 a0_15 a0_16 a0_17 a0_18 (by omega) (by omega)
  have e3 := laws_eqDecoder_self a0_0 a0_1 a0_2 a0_3 a0_4 l0_5 l0_6 a0_7 a0_8 a0_9 a0_10 a0_11 a0_12 a0_13 a0_14 a0_15 a0_16 a0_17 a0_18 (by omega) (by omega)
  refine Ev.bind hq (Ev.bind e1 (Ev.bind hq (Ev.bind e2 ?_)))
  simp only [bne_self_eq_false, Bool.false_eq_true, if_false]
  refine Ev.bind hq (Ev.bind e3 ?_)
  simp only [if_true]
  exact Ev.some _

end Go.Proofs.Ytlfbcmhjopichaa.Pure
