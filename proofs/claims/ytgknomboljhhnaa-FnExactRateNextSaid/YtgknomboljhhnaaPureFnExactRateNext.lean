/- The pure statement of the law FnExactRateNext: over numbers and lists alone, the printed function answers true. Conditions: none beyond the sizes of what a machine holds. -/
import Derived.Test.YtgknomboljhhnaaPFnExactRateNextx4
import Derived.Laws.BitsLemmas
namespace Go.Proofs.Ytgknomboljhhnaa.Pure
open Go.RowKit Go.Proofs.Ytgknomboljhhnaa.PFnExactRateNext Go.Proofs.YtgknomboljhhnaaW.PrintWords Go.Proofs.YtgknomboljhhnaaW.PrintLast Go.Proofs.YtgknomboljhhnaaW.PrintMore
set_option linter.unusedVariables false
set_option linter.unusedSimpArgs false

-- base: whole numbers
theorem wf64 {n : Int} (h : (Lit.int .i64 n).wf = true) : -9223372036854775808 ≤ n ∧ n ≤ 9223372036854775807 := by
  simp [Lit.wf, IntKind.min, IntKind.max, IntKind.signed, IntKind.bits] at h
  omega
theorem w64 {e : Int} (h1 : -9223372036854775808 ≤ e) (h2 : e ≤ 9223372036854775807) : wrap64 e = e := by unfold wrap64; omega
theorem tmod_pos {a b : Int} (h : 0 ≤ a) : Int.tmod a b = a % b := Int.tmod_eq_emod_of_nonneg h
theorem tdiv_pos {a b : Int} (h : 0 ≤ a) : Int.tdiv a b = a / b := Int.tdiv_eq_ediv_of_nonneg h
theorem w64_wf (e : Int) : -9223372036854775808 ≤ wrap64 e ∧ wrap64 e ≤ 9223372036854775807 := by unfold wrap64; omega
-- base: rounds
theorem Ev.mk_ {α : Type} {g : Nat → Option α} {r : α} (K : Nat) (h : ∀ k, K ≤ k → g k = some r) : Ev g r := ⟨K, h⟩
theorem Ev.succ {α : Type} {g : Nat → Option α} {r : α} (h : ∀ k, g (k + 1) = some r) : Ev g r := ⟨1, fun k hk => by obtain ⟨m, rfl⟩ : ∃ m, k = m + 1 := ⟨k - 1, by omega⟩; exact h m⟩
theorem Ev.some {α : Type} (r : α) : Ev (fun _ => Option.some r) r := ⟨0, fun _ _ => rfl⟩
theorem Ev.const {α : Type} {o : Option α} {r : α} (h : o = Option.some r) : Ev (fun _ => o) r := ⟨0, fun _ _ => h⟩
theorem Ev.ite {α : Type} {c : Prop} [Decidable c] {g f : Nat → Option α} {r : α} (h1 : c → Ev g r) (h2 : ¬ c → Ev f r) : Ev (fun k => if c then g k else f k) r := by
  by_cases h : c
  · simpa only [if_pos h] using h1 h
  · simpa only [if_neg h] using h2 h
theorem Ev.bindc {α β : Type} {o : Option α} {f : Nat → α → Option β} {a : α} {r : β} (h : o = Option.some a) (k : Ev (fun n => f n a) r) : Ev (fun n => o.bind (f n)) r := by
  subst h; exact k
-- within
theorem impl_within_eq (a b c : Int) : impl_within.f a b c = some (decide (b ≤ a ∧ a ≤ c)) := by
  unfold impl_within.f
  by_cases h : a ≥ b
  · rw [if_pos h]; simp [show b ≤ a from h]
  · rw [if_neg h]; simp; omega
-- l01In
theorem spec_l01In_eq (a b c : Int) : spec_l01In.f a b c = some (decide (b ≤ a ∧ a ≤ c)) := by
  unfold spec_l01In.f
  by_cases h : a ≥ b
  · rw [if_pos h]; simp [show b ≤ a from h]
  · rw [if_neg h]; simp; omega
-- RateOk value
def rateOk (q t d : Int) : Bool := decide (0 ≤ q ∧ q ≤ 40 ∧ 1 ≤ t ∧ t ≤ 100000 ∧ -8 * t ≤ d ∧ d ≤ 8 * t)
theorem rateOk_iff (q t d : Int) : rateOk q t d = true ↔ 0 ≤ q ∧ q ≤ 40 ∧ 1 ≤ t ∧ t ≤ 100000 ∧ -8 * t ≤ d ∧ d ≤ 8 * t := by simp [rateOk]
-- RateOk impl
theorem impl_RateOk_eq (q t d : Int) : impl_RateOk.f q t d = some (rateOk q t d) := by
  unfold impl_RateOk.f rateOk
  simp only [impl_within_eq, Option.bind_some, decide_eq_true_eq]
  by_cases h1 : 0 ≤ q ∧ q ≤ 40
  · rw [if_pos h1]
    by_cases h2 : 1 ≤ t ∧ t ≤ 100000
    · rw [if_pos h2, w64 (by omega) (by omega), w64 (by omega) (by omega)]
      simp only [h1.1, h1.2, h2.1, h2.2, true_and]
    · rw [if_neg h2]; congr 1; symm; rw [decide_eq_false_iff_not]; exact fun h => h2 ⟨h.2.2.1, h.2.2.2.1⟩
  · rw [if_neg h1]; congr 1; symm; rw [decide_eq_false_iff_not]; exact fun h => h1 ⟨h.1, h.2.1⟩
-- RateOk spec
theorem spec_RateOk_eq (q t d : Int) : spec_RateOk.f q t d = some (rateOk q t d) := by
  unfold spec_RateOk.f rateOk
  simp only [spec_l01In_eq, Option.bind_some, decide_eq_true_eq]
  by_cases h1 : 0 ≤ q ∧ q ≤ 40
  · rw [if_pos h1]
    by_cases h2 : 1 ≤ t ∧ t ≤ 100000
    · rw [if_pos h2, w64 (by omega) (by omega), w64 (by omega) (by omega)]
      simp only [h1.1, h1.2, h2.1, h2.2, true_and]
    · rw [if_neg h2]; congr 1; symm; rw [decide_eq_false_iff_not]; exact fun h => h2 ⟨h.2.2.1, h.2.2.2.1⟩
  · rw [if_neg h1]; congr 1; symm; rw [decide_eq_false_iff_not]; exact fun h => h1 ⟨h.1, h.2.1⟩
-- Brought value
def brought (n a b : Int) : Int := if b < a ∨ n < a then a else if n > b then b else n
-- Brought impl
theorem impl_Brought_eq (n a b : Int) : impl_Brought.f n a b = some (brought n a b) := by
  unfold impl_Brought.f brought mx mn
  congr 1
  repeat' split
  all_goals omega
-- Brought spec
theorem spec_Brought_eq (k : Nat) (n a b : Int) : spec_Brought.f (k + 1) n a b = some (brought n a b) := by
  unfold spec_Brought.f brought
  by_cases h : b < a
  · rw [if_pos h, if_pos (.inl h)]; simp [spec_Brought.j0]
  · rw [if_neg h]
    by_cases h2 : n < a
    · rw [if_pos (.inr h2)]; simp [spec_Brought.j0, h2]
    · rw [if_neg (fun e => e.elim h h2)]
      simp only [spec_Brought.j0, h2, decide_false]
      rw [if_neg (by decide)]
      split <;> rfl
theorem spec_Brought_ev (n a b : Int) : Ev (fun k => spec_Brought.f k n a b) (brought n a b) := Ev.succ fun k => spec_Brought_eq k n a b
-- RateNext value
def rateNext (q t d b : Int) : Int × Int × Int :=
  if rateOk q t d = true then
    let e := brought (d + brought b 0 400000 - t) (-8 * t) (8 * t)
    (brought (if e > t then q + 1 else if e < -t then q - 1 else q) 0 40, t, e)
  else (q, t, d)
-- RateNext impl
theorem impl_RateNext_eq (q t d b : Int) : impl_RateNext.f q t d b = some (rateNext q t d b) := by
  unfold impl_RateNext.f rateNext
  simp only [impl_RateOk_eq, Option.bind_some, impl_Brought_eq]
  by_cases h : rateOk q t d = true
  · rw [if_pos h, if_pos h]
    have h' := (rateOk_iff q t d).1 h
    have hb : 0 ≤ brought b 0 400000 ∧ brought b 0 400000 ≤ 400000 := by unfold brought; repeat' split
                                                                         all_goals omega
    rw [w64 (e := d + brought b 0 400000) (by omega) (by omega), w64 (e := d + brought b 0 400000 - t) (by omega) (by omega), w64 (e := -8 * t) (by omega) (by omega), w64 (e := 8 * t) (by omega) (by omega), w64 (e := -t) (by omega) (by omega), w64 (e := q + 1) (by omega) (by omega), w64 (e := q - 1) (by omega) (by omega)]
    generalize brought (d + brought b 0 400000 - t) (-8 * t) (8 * t) = e
    split
    · rfl
    · split <;> rfl
  · rw [if_neg h, if_neg h]
-- RateNext spec
theorem spec_RateNext_eq (k : Nat) (q t d b : Int) : spec_RateNext.f (k + 1) q t d b = some (rateNext q t d b) := by
  unfold spec_RateNext.f rateNext
  simp only [spec_RateOk_eq, Option.bind_some, spec_Brought_eq]
  by_cases h : rateOk q t d = true
  · rw [if_pos h, if_pos h]
    have h' := (rateOk_iff q t d).1 h
    have hb : 0 ≤ brought b 0 400000 ∧ brought b 0 400000 ≤ 400000 := by unfold brought; repeat' split
                                                                         all_goals omega
    rw [w64 (e := d + brought b 0 400000) (by omega) (by omega), w64 (e := d + brought b 0 400000 - t) (by omega) (by omega), w64 (e := -8 * t) (by omega) (by omega), w64 (e := 8 * t) (by omega) (by omega), w64 (e := -t) (by omega) (by omega), w64 (e := q + 1) (by omega) (by omega), w64 (e := q - 1) (by omega) (by omega)]
    generalize brought (d + brought b 0 400000 - t) (-8 * t) (8 * t) = e
    split
    · rw [if_neg (show ¬ e < -t by omega)]
    · split <;> rfl
  · rw [if_neg h, if_neg h]
theorem spec_RateNext_ev (q t d b : Int) : Ev (fun k => spec_RateNext.f k q t d b) (rateNext q t d b) := Ev.succ fun k => spec_RateNext_eq k q t d b
-- eqRate
theorem laws_eqRate_eq (a b c x y z : Int) : laws_eqRate.f a b c x y z = some (decide ((a, b, c) = (x, y, z))) := by
  unfold laws_eqRate.f
  simp only [Prod.mk.injEq]
  repeat' split
  all_goals simp_all
-- LAW FnExactRateNext
theorem FnExactRateNext (a0_0 a0_1 a0_2 a1 : Int) : ∃ k, laws_FnExactRateNext.f k a0_0 a0_1 a0_2 a1 = some true := by
  refine ⟨1, ?_⟩
  simp [laws_FnExactRateNext.f, laws_toRate.f, spec_RateNext_eq, impl_RateNext_eq, laws_eqRate_eq]

end Go.Proofs.Ytgknomboljhhnaa.Pure
