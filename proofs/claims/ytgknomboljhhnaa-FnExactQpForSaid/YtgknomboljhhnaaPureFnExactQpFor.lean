/- The pure statement of the law FnExactQpFor: over numbers and lists alone, the printed function answers true. Conditions: none beyond the sizes of what a machine holds. -/
import Derived.Test.YtgknomboljhhnaaPFnExactQpForx1
import Derived.Laws.BitsLemmas
namespace Go.Proofs.Ytgknomboljhhnaa.Pure
open Go.RowKit Go.Proofs.Ytgknomboljhhnaa.PFnExactQpFor Go.Proofs.YtgknomboljhhnaaW.PrintWords Go.Proofs.YtgknomboljhhnaaW.PrintLast Go.Proofs.YtgknomboljhhnaaW.PrintMore
set_option linter.unusedVariables false
set_option linter.unusedSimpArgs false

-- base: whole numbers
theorem wf64 {n : Int} (h : (Lit.int .i64 n).wf = true) : -9223372036854775808 ≤ n ∧ n ≤ 9223372036854775807 := by
  simp [Lit.wf, IntKind.min, IntKind.max, IntKind.signed, IntKind.bits] at h
  omega
theorem w64 {e : Int} (h1 : -9223372036854775808 ≤ e) (h2 : e ≤ 9223372036854775807) : wrap64 e = e := by unfold wrap64; omega
theorem tmod_pos {a b : Int} (h : 0 ≤ a) : Int.tmod a b = a % b := Int.tmod_eq_emod_of_nonneg h
theorem tdiv_pos {a b : Int} (h : 0 ≤ a) : Int.tdiv a b = a / b := Int.tdiv_eq_ediv_of_nonneg h
theorem w64_wf (e : Int) : -9223372036854775808 ≤ wrap64 e ∧ wrap64 e ≤ 9223372036854775807 := by unfold wrap64; omega
-- base: rounds
theorem Ev.mk_ {α : Type} {g : Nat → Option α} {r : α} (K : Nat) (h : ∀ k, K ≤ k → g k = some r) : Ev g r := ⟨K, h⟩
theorem Ev.succ {α : Type} {g : Nat → Option α} {r : α} (h : ∀ k, g (k + 1) = some r) : Ev g r := ⟨1, fun k hk => by obtain ⟨m, rfl⟩ : ∃ m, k = m + 1 := ⟨k - 1, by omega⟩; exact h m⟩
theorem Ev.some {α : Type} (r : α) : Ev (fun _ => Option.some r) r := ⟨0, fun _ _ => rfl⟩
theorem Ev.const {α : Type} {o : Option α} {r : α} (h : o = Option.some r) : Ev (fun _ => o) r := ⟨0, fun _ _ => h⟩
theorem Ev.ite {α : Type} {c : Prop} [Decidable c] {g f : Nat → Option α} {r : α} (h1 : c → Ev g r) (h2 : ¬ c → Ev f r) : Ev (fun k => if c then g k else f k) r := by
  by_cases h : c
  · simpa only [if_pos h] using h1 h
  · simpa only [if_neg h] using h2 h
theorem Ev.bindc {α β : Type} {o : Option α} {f : Nat → α → Option β} {a : α} {r : β} (h : o = Option.some a) (k : Ev (fun n => f n a) r) : Ev (fun n => o.bind (f n)) r := by
  subst h; exact k
-- within
theorem impl_within_eq (a b c : Int) : impl_within.f a b c = some (decide (b ≤ a ∧ a ≤ c)) := by
  unfold impl_within.f
  by_cases h : a ≥ b
  · rw [if_pos h]; simp [show b ≤ a from h]
  · rw [if_neg h]; simp; omega
-- l01In
theorem spec_l01In_eq (a b c : Int) : spec_l01In.f a b c = some (decide (b ≤ a ∧ a ≤ c)) := by
  unfold spec_l01In.f
  by_cases h : a ≥ b
  · rw [if_pos h]; simp [show b ≤ a from h]
  · rw [if_neg h]; simp; omega
-- RateOk value
def rateOk (q t d : Int) : Bool := decide (0 ≤ q ∧ q ≤ 40 ∧ 1 ≤ t ∧ t ≤ 100000 ∧ -8 * t ≤ d ∧ d ≤ 8 * t)
theorem rateOk_iff (q t d : Int) : rateOk q t d = true ↔ 0 ≤ q ∧ q ≤ 40 ∧ 1 ≤ t ∧ t ≤ 100000 ∧ -8 * t ≤ d ∧ d ≤ 8 * t := by simp [rateOk]
-- RateOk impl
theorem impl_RateOk_eq (q t d : Int) : impl_RateOk.f q t d = some (rateOk q t d) := by
  unfold impl_RateOk.f rateOk
  simp only [impl_within_eq, Option.bind_some, decide_eq_true_eq]
  by_cases h1 : 0 ≤ q ∧ q ≤ 40
  · rw [if_pos h1]
    by_cases h2 : 1 ≤ t ∧ t ≤ 100000
    · rw [if_pos h2, w64 (by omega) (by omega), w64 (by omega) (by omega)]
      simp only [h1.1, h1.2, h2.1, h2.2, true_and]
    · rw [if_neg h2]; congr 1; symm; rw [decide_eq_false_iff_not]; exact fun h => h2 ⟨h.2.2.1, h.2.2.2.1⟩
  · rw [if_neg h1]; congr 1; symm; rw [decide_eq_false_iff_not]; exact fun h => h1 ⟨h.1, h.2.1⟩
-- RateOk spec
theorem spec_RateOk_eq (q t d : Int) : spec_RateOk.f q t d = some (rateOk q t d) := by
  unfold spec_RateOk.f rateOk
  simp only [spec_l01In_eq, Option.bind_some, decide_eq_true_eq]
  by_cases h1 : 0 ≤ q ∧ q ≤ 40
  · rw [if_pos h1]
    by_cases h2 : 1 ≤ t ∧ t ≤ 100000
    · rw [if_pos h2, w64 (by omega) (by omega), w64 (by omega) (by omega)]
      simp only [h1.1, h1.2, h2.1, h2.2, true_and]
    · rw [if_neg h2]; congr 1; symm; rw [decide_eq_false_iff_not]; exact fun h => h2 ⟨h.2.2.1, h.2.2.2.1⟩
  · rw [if_neg h1]; congr 1; symm; rw [decide_eq_false_iff_not]; exact fun h => h1 ⟨h.1, h.2.1⟩
-- Brought value
def brought (n a b : Int) : Int := if b < a ∨ n < a then a else if n > b then b else n
-- Brought spec
theorem spec_Brought_eq (k : Nat) (n a b : Int) : spec_Brought.f (k + 1) n a b = some (brought n a b) := by
  unfold spec_Brought.f brought
  by_cases h : b < a
  · rw [if_pos h, if_pos (.inl h)]; simp [spec_Brought.j0]
  · rw [if_neg h]
    by_cases h2 : n < a
    · rw [if_pos (.inr h2)]; simp [spec_Brought.j0, h2]
    · rw [if_neg (fun e => e.elim h h2)]
      simp only [spec_Brought.j0, h2, decide_false]
      rw [if_neg (by decide)]
      split <;> rfl
theorem spec_Brought_ev (n a b : Int) : Ev (fun k => spec_Brought.f k n a b) (brought n a b) := Ev.succ fun k => spec_Brought_eq k n a b
-- QpFor value
def qpFor (q t d : Int) (key : Bool) : Int := if rateOk q t d = true then (if key = true then brought (q - 2) 0 40 else q) else 0
-- QpFor impl
theorem impl_QpFor_eq (q t d : Int) (key : Bool) : impl_QpFor.f q t d key = some (qpFor q t d key) := by
  unfold impl_QpFor.f qpFor
  simp only [impl_RateOk_eq, Option.bind_some]
  by_cases h : rateOk q t d = true
  · rw [if_pos h, if_pos h]
    have h' := (rateOk_iff q t d).1 h
    split
    · rw [w64 (by omega) (by omega)]; congr 1; unfold mx brought; repeat' split
      all_goals omega
    · rfl
  · rw [if_neg h, if_neg h]
-- QpFor spec
theorem spec_QpFor_eq (k : Nat) (q t d : Int) (key : Bool) : spec_QpFor.f (k + 1) q t d key = some (qpFor q t d key) := by
  unfold spec_QpFor.f qpFor
  simp only [spec_RateOk_eq, Option.bind_some, spec_Brought_eq]
  by_cases h : rateOk q t d = true
  · rw [if_pos h, if_pos h]
    have h' := (rateOk_iff q t d).1 h
    rw [w64 (by omega) (by omega)]
    split <;> rfl
  · rw [if_neg h, if_neg h]
theorem spec_QpFor_ev (q t d : Int) (key : Bool) : Ev (fun k => spec_QpFor.f k q t d key) (qpFor q t d key) := Ev.succ fun k => spec_QpFor_eq k q t d key
-- LAW FnExactQpFor
theorem FnExactQpFor (a0_0 a0_1 a0_2 : Int) (a1 : Bool) : ∃ k, laws_FnExactQpFor.f k a0_0 a0_1 a0_2 a1 = some true := by
  refine ⟨1, ?_⟩
  simp [laws_FnExactQpFor.f, laws_toRate.f, spec_QpFor_eq, impl_QpFor_eq]

end Go.Proofs.Ytgknomboljhhnaa.Pure
