/- The pure statement of the law FnExactLayoutOk: over numbers and lists alone, the printed function answers true. Conditions: none beyond the sizes of what a machine holds. -/
import Derived.Test.YtfbifogoheajmaaQFnExactLayoutOkx5
import Derived.Laws.BitsLemmas
namespace Go.Proofs.Ytfbifogoheajmaa.Pure
open Go.RowKit Go.Proofs.Ytfbifogoheajmaa.QFnExactLayoutOk Go.Proofs.YtfbifogoheajmaaW.PrintWords Go.Proofs.YtfbifogoheajmaaW.PrintLast Go.Proofs.YtfbifogoheajmaaW.PrintMore
set_option linter.unusedVariables false
set_option linter.unusedSimpArgs false

-- base: whole numbers
theorem wf64 {n : Int} (h : (Lit.int .i64 n).wf = true) : -9223372036854775808 ≤ n ∧ n ≤ 9223372036854775807 := by
  simp [Lit.wf, IntKind.min, IntKind.max, IntKind.signed, IntKind.bits] at h
  omega
theorem w64 {e : Int} (h1 : -9223372036854775808 ≤ e) (h2 : e ≤ 9223372036854775807) : wrap64 e = e := by unfold wrap64; omega
theorem tmod_pos {a b : Int} (h : 0 ≤ a) : Int.tmod a b = a % b := Int.tmod_eq_emod_of_nonneg h
theorem tdiv_pos {a b : Int} (h : 0 ≤ a) : Int.tdiv a b = a / b := Int.tdiv_eq_ediv_of_nonneg h
theorem w64_wf (e : Int) : -9223372036854775808 ≤ wrap64 e ∧ wrap64 e ≤ 9223372036854775807 := by unfold wrap64; omega
-- base: rounds
theorem Ev.mk_ {α : Type} {g : Nat → Option α} {r : α} (K : Nat) (h : ∀ k, K ≤ k → g k = some r) : Ev g r := ⟨K, h⟩
theorem Ev.succ {α : Type} {g : Nat → Option α} {r : α} (h : ∀ k, g (k + 1) = some r) : Ev g r := ⟨1, fun k hk => by obtain ⟨m, rfl⟩ : ∃ m, k = m + 1 := ⟨k - 1, by omega⟩; exact h m⟩
theorem Ev.some {α : Type} (r : α) : Ev (fun _ => Option.some r) r := ⟨0, fun _ _ => rfl⟩
theorem Ev.const {α : Type} {o : Option α} {r : α} (h : o = Option.some r) : Ev (fun _ => o) r := ⟨0, fun _ _ => h⟩
theorem Ev.ite {α : Type} {c : Prop} [Decidable c] {g f : Nat → Option α} {r : α} (h1 : c → Ev g r) (h2 : ¬ c → Ev f r) : Ev (fun k => if c then g k else f k) r := by
  by_cases h : c
  · simpa only [if_pos h] using h1 h
  · simpa only [if_neg h] using h2 h
theorem Ev.pos {α : Type} {c : Prop} [Decidable c] {g f : Nat → Option α} {r : α} (hc : c) (h : Ev g r) : Ev (fun k => if c then g k else f k) r := by
  simpa only [if_pos hc] using h
theorem Ev.neg {α : Type} {c : Prop} [Decidable c] {g f : Nat → Option α} {r : α} (hc : ¬ c) (h : Ev f r) : Ev (fun k => if c then g k else f k) r := by
  simpa only [if_neg hc] using h
theorem Ev.bindc {α β : Type} {o : Option α} {f : Nat → α → Option β} {a : α} {r : β} (h : o = Option.some a) (k : Ev (fun n => f n a) r) : Ev (fun n => o.bind (f n)) r := by
  subst h; exact k
-- within
theorem impl_within_eq (a b c : Int) : impl_within.f a b c = some (decide (b ≤ a ∧ a ≤ c)) := by
  unfold impl_within.f
  by_cases h : a ≥ b
  · rw [if_pos h]; simp [show b ≤ a from h]
  · rw [if_neg h]; simp; omega
-- l01In
theorem spec_l01In_eq (a b c : Int) : spec_l01In.f a b c = some (decide (b ≤ a ∧ a ≤ c)) := by
  unfold spec_l01In.f
  by_cases h : a ≥ b
  · rw [if_pos h]; simp [show b ≤ a from h]
  · rw [if_neg h]; simp; omega
-- lists: rd and drop
theorem rd_drop (l : List Int) (i : Nat) (h : i < l.length) : l.drop i = rd l i :: l.drop (i + 1) := by
  rw [List.drop_eq_getElem_cons h]
  congr 1
  simp [rd, List.getD_eq_getElem?_getD, List.getElem?_eq_getElem h]
theorem w64_succ {i n : Nat} (h : i < n) (hn : n ≤ 9223372036854775807) : wrap64 ((i : Int) + 1) = ((i + 1 : Nat) : Int) := by
  rw [w64 (by omega) (by omega)]; omega
-- toIntS
theorem laws_toIntS_loop (l : List Int) (hl : l.length ≤ 9223372036854775806) : ∀ (d i : Nat) (o : List Int) (k : Nat), l.length - i = d → i ≤ l.length → o.length = l.length → d < k →
    laws_toIntS.l0 k l o i = some (o.take i ++ l.drop i) := by
  intro d
  induction d with
  | zero =>
    intro i o k hd hi ho hk
    obtain ⟨k, rfl⟩ : ∃ m, k = m + 1 := ⟨k - 1, by omega⟩
    simp only [laws_toIntS.l0]
    rw [if_neg (by omega), List.drop_eq_nil_of_le (by omega), List.take_of_length_le (by omega), List.append_nil]
  | succ d ih =>
    intro i o k hd hi ho hk
    obtain ⟨k, rfl⟩ : ∃ m, k = m + 1 := ⟨k - 1, by omega⟩
    simp only [laws_toIntS.l0]
    rw [if_pos (by omega), if_pos (by omega), if_pos (by omega), w64_succ (n := l.length) (by omega) (by omega), ih (i + 1) _ k (by omega) (by omega) (by simpa using ho) (by omega), rd_drop l i (by omega)]
    congr 1
    rw [show ((i : Int)).toNat = i from by omega, List.take_succ_eq_append_getElem (by simp; omega)]
    simp [List.take_set_of_le]
theorem laws_toIntS_ev (l : List Int) (hl : l.length ≤ 35184372088832) : Ev (fun k => laws_toIntS.f k l) l := by
  refine ⟨l.length + 1, fun k hk => ?_⟩
  show laws_toIntS.f k l = some l
  unfold laws_toIntS.f
  rw [if_pos (by omega), if_pos (by omega)]
  have := laws_toIntS_loop l (by omega) l.length 0 (List.replicate ((l.length : Int) : Int).toNat 0) k (by omega) (by omega) (by simp) (by omega)
  simpa using this
-- eqIntS
theorem laws_eqIntS_loop (l m : List Int) (hl : l.length ≤ 9223372036854775806) (hm : m.length = l.length) : ∀ (d i : Nat) (k : Nat), l.length - i = d → i ≤ l.length → d < k →
    laws_eqIntS.l0 k l m i = some (decide (l.drop i = m.drop i)) := by
  intro d
  induction d with
  | zero =>
    intro i k hd hi hk
    obtain ⟨k, rfl⟩ : ∃ m, k = m + 1 := ⟨k - 1, by omega⟩
    simp only [laws_eqIntS.l0]
    rw [if_neg (by omega), List.drop_eq_nil_of_le (by omega), List.drop_eq_nil_of_le (by omega)]; rfl
  | succ d ih =>
    intro i k hd hi hk
    obtain ⟨k, rfl⟩ : ∃ m, k = m + 1 := ⟨k - 1, by omega⟩
    simp only [laws_eqIntS.l0]
    rw [if_pos (by omega), if_pos (by omega), if_pos (by omega), w64_succ (n := l.length) (by omega) (by omega), ih (i + 1) k (by omega) (by omega) (by omega), rd_drop l i (by omega), rd_drop m i (by omega)]
    by_cases h : rd l i = rd m i
    · rw [if_pos h, h]; simp
    · rw [if_neg h]; simp [h]
theorem laws_eqIntS_ev (l m : List Int) (hl : l.length ≤ 9223372036854775806) : Ev (fun k => laws_eqIntS.f k l m) (decide (l = m)) := by
  unfold laws_eqIntS.f
  by_cases h : l.length = m.length
  · simp only [if_pos (show (l.length : Int) = m.length by omega)]
    exact ⟨l.length + 1, fun k hk => by simpa using laws_eqIntS_loop l m hl h.symm l.length 0 k (by omega) (by omega) (by omega)⟩
  · simp only [if_neg (show ¬ (l.length : Int) = m.length by omega)]
    refine Ev.const ?_
    congr 1; symm; rw [decide_eq_false_iff_not]; rintro rfl; exact h rfl
-- rd of a list
theorem rd_mem (l : List Int) (i : Nat) (h : i < l.length) : rd l i ∈ l := by
  simp [rd, List.getD_eq_getElem?_getD, List.getElem?_eq_getElem h]
-- downwards
theorem down_to {P : Nat → Prop} (n : Nat) (h0 : P n) (hs : ∀ i, i < n → P (i + 1) → P i) : ∀ i, i ≤ n → P i := by
  have key : ∀ d i, n - i = d → i ≤ n → P i := by
    intro d
    induction d with
    | zero => intro i hd hi; obtain rfl : i = n := by omega
              exact h0
    | succ d ih => intro i hd hi; exact hs i (by omega) (ih (i + 1) (by omega) (by omega))
  exact fun i hi => key (n - i) i rfl hi
-- sums
def isum : List Int → Int
  | [] => 0
  | x :: r => x + isum r
def okSide (x : Int) : Bool := decide (1 ≤ x ∧ x ≤ 8)
def sideOk (l : List Int) : Bool := decide (1 ≤ l.length ∧ l.length ≤ 4) && l.all okSide
theorem isum_bounds (l : List Int) (h : l.all okSide = true) : (l.length : Int) ≤ isum l ∧ isum l ≤ 8 * l.length := by
  induction l with
  | nil => simp [isum]
  | cons x r ih =>
    simp only [List.all_cons, Bool.and_eq_true, okSide, decide_eq_true_eq] at h
    have := ih h.2
    simp only [isum, List.length_cons]
    omega
theorem sideOk_bounds {l : List Int} (h : sideOk l = true) : 1 ≤ l.length ∧ l.length ≤ 4 ∧ (l.length : Int) ≤ isum l ∧ isum l ≤ 8 * l.length ∧ l.all okSide = true := by
  simp only [sideOk, Bool.and_eq_true, decide_eq_true_eq] at h
  have := isum_bounds l h.2
  exact ⟨h.1.1, h.1.2, this.1, this.2, h.2⟩
def sumIf (l : List Int) : Int := if sideOk l = true then isum l else 0
theorem sumIf_bounds (l : List Int) : 0 ≤ sumIf l ∧ sumIf l ≤ 32 := by
  unfold sumIf
  split
  · rename_i h
    have := sideOk_bounds h
    omega
  · omega
def squares (c r : List Int) : Int := sumIf c * sumIf r
theorem squares_bounds (c r : List Int) : 0 ≤ squares c r ∧ squares c r ≤ 1024 := by
  have h1 := sumIf_bounds c
  have h2 := sumIf_bounds r
  unfold squares
  constructor
  · exact Int.mul_nonneg h1.1 h2.1
  · have := Int.mul_le_mul h1.2 h2.2 h2.1 (by omega : (0 : Int) ≤ 32)
    omega
def levelSquares (n : Int) : Int := if n = 1 then 16 else if n = 2 then 64 else if n = 3 then 256 else 0
def seqOk (lv b : Int) (c r : List Int) : Bool := decide (1 ≤ squares c r ∧ squares c r ≤ levelSquares lv ∧ 3 ≤ b ∧ b ≤ 8)
-- spec l05Sum
theorem spec_l05Sum_loop (l : List Int) (hl : l.length ≤ 4) : ∀ i, i ≤ l.length → ∀ a : Int, 0 ≤ a → a ≤ 8 * i → Ev (fun k => spec_l05Sum.l0 k l a i) (if (l.drop i).all okSide = true then a + isum (l.drop i) else 0) := by
  refine down_to _ ?_ ?_
  · intro a h0 h1
    refine Ev.step (f := fun _ => some a) (fun k => by simp only [spec_l05Sum.l0]; rw [if_neg (by omega)]) ?_
    rw [List.drop_eq_nil_of_le (Nat.le_refl _)]
    simpa [isum] using Ev.some a
  · intro i hi ih a h0 h1
    refine Ev.step (fun k => by rw [spec_l05Sum.l0, if_pos (by omega), if_pos (by omega), spec_l01In_eq, Option.bind_some]) ?_
    rw [rd_drop l i hi]
    simp only [decide_eq_true_eq, List.all_cons, Bool.and_eq_true, okSide, isum]
    refine Ev.ite (fun hc => ?_) (fun hc => ?_)
    · rw [w64 (by omega) (by omega), w64_succ hi (by omega)]
      have := ih (a + rd l i) (by omega) (by omega)
      simp only [hc.1, hc.2, and_self, true_and]
      rw [show a + (rd l i + isum (l.drop (i + 1))) = a + rd l i + isum (l.drop (i + 1)) by omega]
      simpa [okSide] using this
    · simpa [hc] using Ev.some (0 : Int)
theorem spec_l05Sum_ev (l : List Int) : Ev (fun k => spec_l05Sum.f k l) (sumIf l) := by
  unfold spec_l05Sum.f sumIf sideOk
  by_cases h1 : l.length < 1
  · simp only [if_pos (show (l.length : Int) < 1 by omega)]
    refine Ev.step (f := fun _ => some 0) (fun k => by simp [spec_l05Sum.j0]) ?_
    simpa [show ¬ 1 ≤ l.length by omega] using Ev.some (0 : Int)
  · simp only [if_neg (show ¬ (l.length : Int) < 1 by omega)]
    by_cases h4 : l.length > 4
    · refine Ev.step (f := fun _ => some 0) (fun k => by simp [spec_l05Sum.j0]; omega) ?_
      simpa [show ¬ l.length ≤ 4 by omega] using Ev.some (0 : Int)
    · refine Ev.step (f := fun k => spec_l05Sum.l0 k l 0 0) (fun k => by simp [spec_l05Sum.j0]; omega) ?_
      have := spec_l05Sum_loop l (by omega) 0 (by omega) 0 (by omega) (by omega)
      simpa [show 1 ≤ l.length by omega, show l.length ≤ 4 by omega] using this
-- spec SquaresOf
theorem spec_SquaresOf_ev (a b : Int) (c r : List Int) : Ev (fun k => spec_SquaresOf.f k a b c r) (squares c r) := by
  unfold spec_SquaresOf.f
  refine Ev.bind (spec_l05Sum_ev c) (Ev.bind (spec_l05Sum_ev r) ?_)
  have h := squares_bounds c r
  unfold squares at h
  rw [w64 (by omega) (by omega)]
  exact Ev.some _
-- spec LevelSquares
theorem spec_LevelSquares_eq (n : Int) : spec_LevelSquares.f n = some (levelSquares n) := by
  unfold spec_LevelSquares.f levelSquares
  repeat' split
  all_goals rfl
-- spec SeqOk
theorem spec_SeqOk_ev (lv b : Int) (c r : List Int) : Ev (fun k => spec_SeqOk.f k lv b c r) (seqOk lv b c r) := by
  unfold spec_SeqOk.f seqOk
  refine Ev.bind (spec_SquaresOf_ev lv b c r) ?_
  simp only [spec_LevelSquares_eq, Option.bind_some, spec_l01In_eq, decide_eq_true_eq]
  refine Ev.const ?_
  split
  · congr 1; rw [decide_eq_decide]; omega
  · congr 1; symm; rw [decide_eq_false_iff_not]; omega
-- LevelFor value
def levelFor (c r : List Int) : Int := if seqOk 1 3 c r = true then 1 else if seqOk 2 3 c r = true then 2 else if seqOk 3 3 c r = true then 3 else 0
-- spec LevelFor
theorem spec_LevelFor_ev (c r : List Int) : Ev (fun k => spec_LevelFor.f k c r) (levelFor c r) := by
  unfold spec_LevelFor.f levelFor
  have e2 : wrap64 (1 + 1) = 2 := by unfold wrap64; omega
  have e3 : wrap64 (2 + 1) = 3 := by unfold wrap64; omega
  have e4 : wrap64 (3 + 1) = 4 := by unfold wrap64; omega
  refine Ev.step (fun k => by rw [spec_LevelFor.l0, if_pos (by omega), e2]) (Ev.bind (spec_SeqOk_ev 1 3 c r) ?_)
  split
  · exact Ev.some _
  refine Ev.step (fun k => by rw [spec_LevelFor.l0, if_pos (by omega), e3]) (Ev.bind (spec_SeqOk_ev 2 3 c r) ?_)
  split
  · exact Ev.some _
  refine Ev.step (fun k => by rw [spec_LevelFor.l0, if_pos (by omega), e4]) (Ev.bind (spec_SeqOk_ev 3 3 c r) ?_)
  split
  · exact Ev.some _
  exact Ev.step (fun k => by rw [spec_LevelFor.l0, if_neg (by omega)]) (Ev.some _)
-- impl sumOf
theorem impl_sumOf_loop (l : List Int) (hl : l.length ≤ 4) (ha : l.all okSide = true) : ∀ i, i ≤ l.length → ∀ a : Int, 0 ≤ a → a ≤ 8 * i → Ev (fun k => impl_sumOf.l0 k a l (l.length : Int) i) (a + isum (l.drop i)) := by
  refine down_to _ ?_ ?_
  · intro a h0 h1
    refine Ev.step (f := fun _ => some a) (fun k => by simp only [impl_sumOf.l0]; rw [if_neg (by omega)]) ?_
    rw [List.drop_eq_nil_of_le (Nat.le_refl _)]
    simpa [isum] using Ev.some a
  · intro i hi ih a h0 h1
    have hr : 1 ≤ rd l i ∧ rd l i ≤ 8 := by
      have := List.all_eq_true.1 ha _ (rd_mem l i hi)
      simpa [okSide] using this
    refine Ev.step (fun k => by rw [impl_sumOf.l0, if_pos (by omega), if_pos (by omega), if_pos (by omega), w64 (by omega) (by omega), w64_succ hi (by omega)]) ?_
    rw [rd_drop l i hi]
    simp only [isum]
    rw [show a + (rd l i + isum (l.drop (i + 1))) = a + rd l i + isum (l.drop (i + 1)) by omega]
    exact ih _ (by omega) (by omega)
theorem impl_sumOf_ev (l : List Int) (hl : l.length ≤ 4) (ha : l.all okSide = true) : Ev (fun k => impl_sumOf.f k l) (isum l) := by
  unfold impl_sumOf.f
  simpa using impl_sumOf_loop l hl ha 0 (by omega) 0 (by omega) (by omega)
-- impl SquaresOf
theorem impl_SquaresOf_inner (L : List (List Int)) (n i : Int) (a b : Int) (c r : List Int) (l : List Int) (hl : l.length ≤ 4) (res : Int) (hn : (∃ d, wrap64 (i + 1) = d ∧ (l.all okSide = true → Ev (fun k => impl_SquaresOf.l0 k L n d a b c r) res))) (hbad : ¬ l.all okSide = true → res = 0) :
    ∀ j, j ≤ l.length → (l.take j).all okSide = true → Ev (fun k => impl_SquaresOf.l1 k L n i l (l.length : Int) j a b c r) res := by
  obtain ⟨d, hd, hn⟩ := hn
  refine down_to _ ?_ ?_
  · intro ht
    rw [List.take_length] at ht
    exact Ev.step (fun k => by rw [impl_SquaresOf.l1, if_neg (by omega), hd]) (hn ht)
  · intro j hj ih ht
    refine Ev.step (fun k => by rw [impl_SquaresOf.l1, if_pos (by omega), if_pos (by omega), if_pos (by omega), impl_within_eq, Option.bind_some, w64_succ hj (by omega)]) ?_
    simp only [decide_eq_true_eq]
    refine Ev.ite (fun hc => ?_) (fun hc => ?_)
    · refine ih ?_
      have e : l.take (j + 1) = l.take j ++ [rd l j] := by
        rw [List.take_succ_eq_append_getElem hj]
        simp [rd, List.getD_eq_getElem?_getD, List.getElem?_eq_getElem hj]
      rw [e, List.all_append, ht]
      simpa [okSide] using hc
    · rw [hbad (fun h => hc (by have := List.all_eq_true.1 h _ (rd_mem l j hj); simpa [okSide] using this))]
      exact Ev.some _
theorem impl_SquaresOf_ev (a b : Int) (c r : List Int) (hc : c.length ≤ 9223372036854775806) (hr : r.length ≤ 9223372036854775806) : Ev (fun k => impl_SquaresOf.f k a b c r) (squares c r) := by
  unfold impl_SquaresOf.f
  simp only [Option.bind_some, List.length_cons, List.length_nil]
  have r0 : rd_L1 [c, r] 0 = c := rfl
  have r1 : rd_L1 [c, r] 1 = r := rfl
  have e1 : wrap64 (0 + 1) = 1 := by unfold wrap64; omega
  have e2 : wrap64 (1 + 1) = 2 := by unfold wrap64; omega
  have bad : ∀ l m : List Int, ¬ sideOk l = true → sumIf l * sumIf m = 0 ∧ sumIf m * sumIf l = 0 := by
    intro l m h
    have : sumIf l = 0 := by unfold sumIf; rw [if_neg h]
    rw [this]; simp
  refine Ev.step (fun k => by rw [impl_SquaresOf.l0, if_pos (by simp), if_pos (by omega), if_pos (by simp), r0, impl_within_eq, Option.bind_some]) ?_
  simp only [decide_eq_true_eq]
  refine Ev.ite (fun h1 => ?_) (fun h1 => ?_)
  · refine impl_SquaresOf_inner [c, r] _ 0 a b c r c (by omega) _ ⟨1, e1, fun ha => ?_⟩ (fun hb => (bad c r (fun h => hb (sideOk_bounds h).2.2.2.2)).1) 0 (by omega) (by simp)
    refine Ev.step (fun k => by rw [impl_SquaresOf.l0, if_pos (by simp), if_pos (by omega), if_pos (by simp), r1, impl_within_eq, Option.bind_some]) ?_
    simp only [decide_eq_true_eq]
    refine Ev.ite (fun h2 => ?_) (fun h2 => ?_)
    · refine impl_SquaresOf_inner [c, r] _ 1 a b c r r (by omega) _ ⟨2, e2, fun hb => ?_⟩ (fun hb => (bad r c (fun h => hb (sideOk_bounds h).2.2.2.2)).2) 0 (by omega) (by simp)
      refine Ev.step (fun k => by rw [impl_SquaresOf.l0, if_neg (by simp)]) ?_
      refine Ev.bind (impl_sumOf_ev c (by omega) ha) (Ev.bind (impl_sumOf_ev r (by omega) hb) ?_)
      have s1 : sideOk c = true := by simp [sideOk, ha]; omega
      have s2 : sideOk r = true := by simp [sideOk, hb]; omega
      have h := squares_bounds c r
      unfold squares sumIf at h
      unfold sumIf
      rw [if_pos s1, if_pos s2] at h ⊢
      rw [w64 (by omega) (by omega)]
      exact Ev.some _
    · have : sumIf c * sumIf r = 0 := (bad r c (fun h => h2 (by have := sideOk_bounds h; omega))).2
      rw [this]; exact Ev.some _
  · have : squares c r = 0 := (bad c r (fun h => h1 (by have := sideOk_bounds h; omega))).1
    rw [this]; exact Ev.some _
-- impl LevelSquares
theorem impl_LevelSquares_eq (n : Int) : impl_LevelSquares.f n = some (levelSquares n) := by
  unfold impl_LevelSquares.f levelSquares
  simp only [impl_within_eq, Option.bind_some, decide_eq_true_eq]
  by_cases h : 1 ≤ n ∧ n ≤ 3
  · obtain rfl | rfl | rfl : n = 1 ∨ n = 2 ∨ n = 3 := by omega
    all_goals decide +kernel
  · rw [if_neg h, if_neg (by omega), if_neg (by omega), if_neg (by omega)]
-- impl SeqOk
theorem impl_SeqOk_ev (lv b : Int) (c r : List Int) (hc : c.length ≤ 9223372036854775806) (hr : r.length ≤ 9223372036854775806) : Ev (fun k => impl_SeqOk.f k lv b c r) (seqOk lv b c r) := by
  unfold impl_SeqOk.f seqOk
  refine Ev.bind (impl_SquaresOf_ev lv b c r hc hr) ?_
  simp only [impl_LevelSquares_eq, Option.bind_some, impl_within_eq, decide_eq_true_eq]
  refine Ev.const ?_
  split
  · congr 1; rw [decide_eq_decide]; omega
  · congr 1; symm; rw [decide_eq_false_iff_not]; omega
-- impl LevelFor
theorem impl_LevelFor_ev (c r : List Int) (hc : c.length ≤ 9223372036854775806) (hr : r.length ≤ 9223372036854775806) : Ev (fun k => impl_LevelFor.f k c r) (levelFor c r) := by
  unfold impl_LevelFor.f levelFor
  have e2 : wrap64 (1 + 1) = 2 := by unfold wrap64; omega
  have e3 : wrap64 (2 + 1) = 3 := by unfold wrap64; omega
  have e4 : wrap64 (3 + 1) = 4 := by unfold wrap64; omega
  refine Ev.step (fun k => by rw [impl_LevelFor.l0, if_pos (by omega), e2]) (Ev.bind (impl_SeqOk_ev 1 3 c r hc hr) ?_)
  split
  · exact Ev.some _
  refine Ev.step (fun k => by rw [impl_LevelFor.l0, if_pos (by omega), e3]) (Ev.bind (impl_SeqOk_ev 2 3 c r hc hr) ?_)
  split
  · exact Ev.some _
  refine Ev.step (fun k => by rw [impl_LevelFor.l0, if_pos (by omega), e4]) (Ev.bind (impl_SeqOk_ev 3 3 c r hc hr) ?_)
  split
  · exact Ev.some _
  exact Ev.step (fun k => by rw [impl_LevelFor.l0, if_neg (by omega)]) (Ev.some _)
-- a proposition as a Bool
noncomputable def pb (p : Prop) : Bool := @decide p (Classical.propDecidable p)
theorem pb_true {p : Prop} (h : p) : pb p = true := by unfold pb; exact @decide_eq_true p (Classical.propDecidable p) h
theorem pb_false {p : Prop} (h : ¬ p) : pb p = false := by unfold pb; exact @decide_eq_false p (Classical.propDecidable p) h
theorem pb_iff {p : Prop} : pb p = true ↔ p := ⟨fun h => Classical.byContradiction fun hn => by rw [pb_false hn] at h; exact absurd h (by decide), pb_true⟩
-- layouts: who
def goodAt (l : List Int) (i : Nat) : Prop := (-1 ≤ rd l i ∧ rd l i ≤ 5) ∧ ∀ j : Nat, j < i → ¬ (0 ≤ rd l i ∧ rd l j = rd l i)
noncomputable def layoutOk (c r w : List Int) : Bool := pb (levelFor c r ≠ 0 ∧ (w.length : Int) = (c.length : Int) * r.length ∧ ∀ i, i < w.length → goodAt w i)
theorem levelFor_pos {c r : List Int} (h : levelFor c r ≠ 0) : c.length ≤ 4 ∧ r.length ≤ 4 := by
  have key : ∀ lv : Int, seqOk lv 3 c r = true → c.length ≤ 4 ∧ r.length ≤ 4 := by
    intro lv h
    simp only [seqOk, decide_eq_true_eq] at h
    have hs : squares c r ≠ 0 := by omega
    unfold squares sumIf at hs
    constructor
    · refine Classical.byContradiction fun hn => hs ?_
      rw [if_neg (fun h => hn (sideOk_bounds h).2.1)]; simp
    · refine Classical.byContradiction fun hn => hs ?_
      rw [if_neg (c := sideOk r = true) (fun h => hn (sideOk_bounds h).2.1)]; simp
  unfold levelFor at h
  split at h
  · exact key 1 (by assumption)
  split at h
  · exact key 2 (by assumption)
  split at h
  · exact key 3 (by assumption)
  · exact absurd rfl h
-- spec LayoutOk
theorem spec_LayoutOk_inner (c r w : List Int) (hw : w.length ≤ 9223372036854775806) (i : Nat) (hi : i < w.length) (res : Bool) (hb : ¬ goodAt w i → res = false) (hr : -1 ≤ rd w i ∧ rd w i ≤ 5) (hn : goodAt w i → Ev (fun k => spec_LayoutOk.l0 k ((i + 1 : Nat) : Int) c r w) res) :
    ∀ j, j ≤ i → (∀ j' : Nat, j' < j → ¬ (0 ≤ rd w i ∧ rd w j' = rd w i)) → Ev (fun k => spec_LayoutOk.l1 k i j c r w) res := by
  refine down_to _ ?_ ?_
  · intro h
    exact Ev.step (fun k => by rw [spec_LayoutOk.l1, if_neg (by omega), w64_succ hi (by omega)]) (hn ⟨hr, h⟩)
  · intro j hj ih h
    refine Ev.step (fun k => by rw [spec_LayoutOk.l1, if_pos (by omega), if_pos (by omega), if_pos (by omega), w64_succ (n := w.length) (by omega) (by omega)]) ?_
    refine Ev.ite (fun h0 => ?_) (fun h0 => ?_)
    · simp only [if_pos (show (0 : Int) ≤ (j : Int) by omega), if_pos (show (j : Int) < w.length by omega)]
      refine Ev.ite (fun he => ?_) (fun he => ?_)
      · rw [hb (fun hg => hg.2 j hj ⟨h0, he⟩)]; exact Ev.some _
      · refine ih fun j' hj' => ?_
        rcases Nat.lt_or_ge j' j with h2 | h2
        · exact h j' h2
        · obtain rfl : j' = j := by omega
          exact fun hh => he hh.2
    · refine ih fun j' hj' hh => h0 hh.1
theorem spec_LayoutOk_outer (c r w : List Int) (hw : w.length ≤ 9223372036854775806) (res : Bool) (hb : ∀ i, i < w.length → ¬ goodAt w i → res = false) (ht : (∀ i, i < w.length → goodAt w i) → res = true) :
    ∀ i, i ≤ w.length → (∀ i', i' < i → goodAt w i') → Ev (fun k => spec_LayoutOk.l0 k i c r w) res := by
  refine down_to _ ?_ ?_
  · intro h
    rw [ht h]
    exact Ev.step (fun k => by rw [spec_LayoutOk.l0, if_neg (by omega)]) (Ev.some _)
  · intro i hi ih h
    refine Ev.step (fun k => by rw [spec_LayoutOk.l0, if_pos (by omega), if_pos (by omega), spec_l01In_eq, Option.bind_some]) ?_
    simp only [decide_eq_true_eq]
    refine Ev.ite (fun h0 => ?_) (fun h0 => ?_)
    · exact spec_LayoutOk_inner c r w hw i hi res (hb i hi) h0 (fun hg => ih fun i' hi' => by
        rcases Nat.lt_or_ge i' i with h2 | h2
        · exact h i' h2
        · obtain rfl : i' = i := by omega
          exact hg) 0 (by omega) (by omega)
    · rw [hb i hi (fun hg => h0 hg.1)]; exact Ev.some _
theorem spec_LayoutOk_ev (c r w : List Int) (hw : w.length ≤ 9223372036854775806) : Ev (fun k => spec_LayoutOk.f k c r w) (layoutOk c r w) := by
  unfold spec_LayoutOk.f
  refine Ev.bind (spec_LevelFor_ev c r) ?_
  refine Ev.ite (fun h0 => ?_) (fun h0 => ?_)
  · rw [layoutOk, pb_false (fun h => h.1 h0)]
    exact Ev.step (fun k => by rw [spec_LayoutOk.j0, if_pos rfl]) (Ev.some _)
  · have hl := levelFor_pos h0
    have hm : (c.length : Int) * r.length ≤ 16 := by
      have := Nat.mul_le_mul hl.1 hl.2
      have e : ((c.length * r.length : Nat) : Int) = (c.length : Int) * r.length := Int.natCast_mul _ _
      omega
    have hm0 : 0 ≤ (c.length : Int) * r.length := Int.mul_nonneg (by omega) (by omega)
    rw [w64 (by omega) (by omega)]
    by_cases he : (w.length : Int) = (c.length : Int) * r.length
    · refine Ev.step (fun k => by rw [spec_LayoutOk.j0, if_neg (by simp [he])]) ?_
      exact spec_LayoutOk_outer c r w hw _ (fun i hi hg => pb_false fun h => hg (h.2.2 i hi)) (fun h => pb_true ⟨h0, he, h⟩) 0 (by omega) (by omega)
    · rw [layoutOk, pb_false (fun h => he h.2.1)]
      exact Ev.step (fun k => by rw [spec_LayoutOk.j0, if_pos (by simpa using he)]) (Ev.some _)
-- impl LayoutOk
theorem impl_LayoutOk_inner (c r w : List Int) (hw : w.length ≤ 9223372036854775806) (i : Nat) (hi : i < w.length) (res : Bool) (hb : ¬ goodAt w i → res = false) (hr : -1 ≤ rd w i ∧ rd w i ≤ 5) (hn : goodAt w i → Ev (fun k => impl_LayoutOk.l0 k w (w.length : Int) ((i + 1 : Nat) : Int) c r w) res) :
    ∀ j, j ≤ i → (∀ j' : Nat, j' < j → ¬ (0 ≤ rd w i ∧ rd w j' = rd w i)) → Ev (fun k => impl_LayoutOk.l1 k (rd w i) w (w.length : Int) i (w.take i) ((w.take i).length : Int) j c r w) res := by
  have htl : (w.take i).length = i := by rw [List.length_take]; omega
  refine down_to _ ?_ ?_
  · intro h
    exact Ev.step (fun k => by rw [impl_LayoutOk.l1, if_neg (by omega), w64_succ hi (by omega)]) (hn ⟨hr, h⟩)
  · intro j hj ih h
    have hrd : rd (w.take i) j = rd w j := by simp [rd, List.getD_eq_getElem?_getD, List.getElem?_take, hj]
    refine Ev.step (fun k => by rw [impl_LayoutOk.l1, if_pos (by omega), if_pos (by omega), if_pos (by omega), w64_succ (n := w.length) (by omega) (by omega), hrd]) ?_
    refine Ev.ite (fun h0 => ?_) (fun h0 => ?_)
    · refine Ev.ite (fun he => ?_) (fun he => ?_)
      · rw [hb (fun hg => hg.2 j hj ⟨h0, he⟩)]; exact Ev.some _
      · refine ih fun j' hj' => ?_
        rcases Nat.lt_or_ge j' j with h2 | h2
        · exact h j' h2
        · obtain rfl : j' = j := by omega
          exact fun hh => he hh.2
    · refine ih fun j' hj' hh => h0 hh.1
theorem impl_LayoutOk_outer (c r w : List Int) (hw : w.length ≤ 9223372036854775806) (res : Bool) (hb : ∀ i, i < w.length → ¬ goodAt w i → res = false) (ht : (∀ i, i < w.length → goodAt w i) → res = true) :
    ∀ i, i ≤ w.length → (∀ i', i' < i → goodAt w i') → Ev (fun k => impl_LayoutOk.l0 k w (w.length : Int) i c r w) res := by
  refine down_to _ ?_ ?_
  · intro h
    rw [ht h]
    exact Ev.step (fun k => by rw [impl_LayoutOk.l0, if_neg (by omega)]) (Ev.some _)
  · intro i hi ih h
    refine Ev.step (fun k => by rw [impl_LayoutOk.l0, if_pos (by omega), if_pos (by omega), if_pos (by omega), impl_within_eq, Option.bind_some, if_pos (show (i : Int) ≤ w.length by omega), show ((i : Int)).toNat = i from by omega]) ?_
    simp only [decide_eq_true_eq]
    refine Ev.ite (fun h0 => ?_) (fun h0 => ?_)
    · exact impl_LayoutOk_inner c r w hw i hi res (hb i hi) h0 (fun hg => ih fun i' hi' => by
        rcases Nat.lt_or_ge i' i with h2 | h2
        · exact h i' h2
        · obtain rfl : i' = i := by omega
          exact hg) 0 (by omega) (by omega)
    · rw [hb i hi (fun hg => h0 hg.1)]; exact Ev.some _
theorem impl_LayoutOk_ev (c r w : List Int) (hc : c.length ≤ 9223372036854775806) (hr : r.length ≤ 9223372036854775806) (hw : w.length ≤ 9223372036854775806) : Ev (fun k => impl_LayoutOk.f k c r w) (layoutOk c r w) := by
  unfold impl_LayoutOk.f
  refine Ev.bind (impl_LevelFor_ev c r hc hr) ?_
  refine Ev.ite (fun h0 => ?_) (fun h0 => ?_)
  · rw [layoutOk, pb_false (fun h => h.1 h0)]
    exact Ev.step (fun k => by rw [impl_LayoutOk.j0, if_pos rfl]) (Ev.some _)
  · have hl := levelFor_pos h0
    have hm : (c.length : Int) * r.length ≤ 16 := by
      have := Nat.mul_le_mul hl.1 hl.2
      have e : ((c.length * r.length : Nat) : Int) = (c.length : Int) * r.length := Int.natCast_mul _ _
      omega
    have hm0 : 0 ≤ (c.length : Int) * r.length := Int.mul_nonneg (by omega) (by omega)
    rw [w64 (by omega) (by omega)]
    by_cases he : (w.length : Int) = (c.length : Int) * r.length
    · refine Ev.step (fun k => by rw [impl_LayoutOk.j0, if_neg (by simp [he])]) ?_
      exact impl_LayoutOk_outer c r w hw _ (fun i hi hg => pb_false fun h => hg (h.2.2 i hi)) (fun h => pb_true ⟨h0, he, h⟩) 0 (by omega) (by omega)
    · rw [layoutOk, pb_false (fun h => he h.2.1)]
      exact Ev.step (fun k => by rw [impl_LayoutOk.j0, if_pos (by simpa using he)]) (Ev.some _)
-- szIntS
theorem laws_szIntS_eq (l : List Int) (n : Int) (h0 : 0 ≤ n) (h1 : n ≤ 1048576) (hl : l.length ≤ 9223372036854775807) : laws_szIntS.f l n = some (if n < l.length then -1 else n - l.length) := by
  unfold laws_szIntS.f
  rw [w64 (by omega) (by omega)]
  split
  · rw [if_pos (by omega)]
  · rw [if_neg (by omega)]
-- toLayout
theorem laws_toLayout_ev (a b c : List Int) (ha : a.length ≤ 35184372088832) (hb : b.length ≤ 35184372088832) (hc : c.length ≤ 35184372088832) : Ev (fun k => laws_toLayout.f k a b c) (a, b, c) := by
  unfold laws_toLayout.f
  exact Ev.bind (laws_toIntS_ev a ha) (Ev.bind (laws_toIntS_ev b hb) (Ev.bind (laws_toIntS_ev c hc) (Ev.some _)))
-- eqLayout
theorem laws_eqLayout_ev (a b c : List Int) (ha : a.length ≤ 35184372088832) (hb : b.length ≤ 35184372088832) (hc : c.length ≤ 35184372088832) : Ev (fun k => laws_eqLayout.f k a b c a b c) true := by
  unfold laws_eqLayout.f
  refine Ev.bind (laws_eqIntS_ev a a (by omega)) ?_
  simp only [decide_true, if_true]
  refine Ev.bind (laws_eqIntS_ev b b (by omega)) ?_
  simp only [decide_true, if_true]
  refine Ev.bind (laws_eqIntS_ev c c (by omega)) ?_
  simp only [decide_true, if_true]
  exact Ev.some _
-- LAW FnExactLayoutOk
theorem FnExactLayoutOk (l0_0 l0_1 l0_2 : List Int) (m0_0 : l0_0.length ≤ maxLen) (m0_1 : l0_1.length ≤ maxLen) (m0_2 : l0_2.length ≤ maxLen) : ∃ k, laws_FnExactLayoutOk.f k l0_0 l0_1 l0_2 = some true := by
  unfold maxLen at m0_0 m0_1 m0_2
  refine Ev.rounds (g := fun k => laws_FnExactLayoutOk.f k l0_0 l0_1 l0_2) ?_
  unfold laws_FnExactLayoutOk.f laws_szLayout.f
  rw [laws_szIntS_eq _ _ (by omega) (by omega) (by omega)]
  simp only [Option.bind_some]
  by_cases h0 : (1048576 : Int) < l0_0.length
  · simp only [if_pos h0]; exact Ev.some _
  simp only [if_neg h0]
  rw [if_neg (by omega), laws_szIntS_eq _ _ (by omega) (by omega) (by omega)]
  simp only [Option.bind_some]
  by_cases h1 : (1048576 : Int) - l0_0.length < l0_1.length
  · simp only [if_pos h1]; exact Ev.some _
  simp only [if_neg h1]
  rw [if_neg (by omega), laws_szIntS_eq _ _ (by omega) (by omega) (by omega)]
  simp only [Option.bind_some]
  by_cases h2 : (1048576 : Int) - l0_0.length - l0_1.length < l0_2.length
  · simp only [if_pos h2]; exact Ev.some _
  simp only [if_neg h2]
  rw [if_neg (by omega)]
  simp only [Option.bind_some]
  refine Ev.neg (by omega) ?_
  have ht := laws_toLayout_ev l0_0 l0_1 l0_2 (by omega) (by omega) (by omega)
  refine Ev.bind ht (Ev.bind (spec_LayoutOk_ev l0_0 l0_1 l0_2 (by omega)) (Ev.bind ht (Ev.bind (impl_LayoutOk_ev l0_0 l0_1 l0_2 (by omega) (by omega) (by omega)) ?_)))
  simp only [bne_self_eq_false, Bool.false_eq_true, if_false]
  refine Ev.bind ht (Ev.bind (laws_eqLayout_ev l0_0 l0_1 l0_2 (by omega) (by omega) (by omega)) ?_)
  simp only [if_true]
  exact Ev.some _

end Go.Proofs.Ytfbifogoheajmaa.Pure
