/- The pure statement of the law FnExactRateOk: over numbers and lists alone, the printed function answers true. Conditions: none beyond the sizes of what a machine holds. -/
import Derived.Test.YtgknomboljhhnaaPFnExactRateOkx1
import Derived.Laws.BitsLemmas
namespace Go.Proofs.Ytgknomboljhhnaa.Pure
open Go.RowKit Go.Proofs.Ytgknomboljhhnaa.PFnExactRateOk Go.Proofs.YtgknomboljhhnaaW.PrintWords Go.Proofs.YtgknomboljhhnaaW.PrintLast Go.Proofs.YtgknomboljhhnaaW.PrintMore
set_option linter.unusedVariables false
set_option linter.unusedSimpArgs false

-- base: whole numbers
theorem wf64 {n : Int} (h : (Lit.int .i64 n).wf = true) : -9223372036854775808 ≤ n ∧ n ≤ 9223372036854775807 := by
  simp [Lit.wf, IntKind.min, IntKind.max, IntKind.signed, IntKind.bits] at h
  omega
theorem w64 {e : Int} (h1 : -9223372036854775808 ≤ e) (h2 : e ≤ 9223372036854775807) : wrap64 e = e := by unfold wrap64; omega
theorem tmod_pos {a b : Int} (h : 0 ≤ a) : Int.tmod a b = a % b := Int.tmod_eq_emod_of_nonneg h
theorem tdiv_pos {a b : Int} (h : 0 ≤ a) : Int.tdiv a b = a / b := Int.tdiv_eq_ediv_of_nonneg h
theorem w64_wf (e : Int) : -9223372036854775808 ≤ wrap64 e ∧ wrap64 e ≤ 9223372036854775807 := by unfold wrap64; omega
-- within
theorem impl_within_eq (a b c : Int) : impl_within.f a b c = some (decide (b ≤ a ∧ a ≤ c)) := by
  unfold impl_within.f
  by_cases h : a ≥ b
  · rw [if_pos h]; simp [show b ≤ a from h]
  · rw [if_neg h]; simp; omega
-- l01In
theorem spec_l01In_eq (a b c : Int) : spec_l01In.f a b c = some (decide (b ≤ a ∧ a ≤ c)) := by
  unfold spec_l01In.f
  by_cases h : a ≥ b
  · rw [if_pos h]; simp [show b ≤ a from h]
  · rw [if_neg h]; simp; omega
-- RateOk value
def rateOk (q t d : Int) : Bool := decide (0 ≤ q ∧ q ≤ 40 ∧ 1 ≤ t ∧ t ≤ 100000 ∧ -8 * t ≤ d ∧ d ≤ 8 * t)
theorem rateOk_iff (q t d : Int) : rateOk q t d = true ↔ 0 ≤ q ∧ q ≤ 40 ∧ 1 ≤ t ∧ t ≤ 100000 ∧ -8 * t ≤ d ∧ d ≤ 8 * t := by simp [rateOk]
-- RateOk impl
theorem impl_RateOk_eq (q t d : Int) : impl_RateOk.f q t d = some (rateOk q t d) := by
  unfold impl_RateOk.f rateOk
  simp only [impl_within_eq, Option.bind_some, decide_eq_true_eq]
  by_cases h1 : 0 ≤ q ∧ q ≤ 40
  · rw [if_pos h1]
    by_cases h2 : 1 ≤ t ∧ t ≤ 100000
    · rw [if_pos h2, w64 (by omega) (by omega), w64 (by omega) (by omega)]
      simp only [h1.1, h1.2, h2.1, h2.2, true_and]
    · rw [if_neg h2]; congr 1; symm; rw [decide_eq_false_iff_not]; exact fun h => h2 ⟨h.2.2.1, h.2.2.2.1⟩
  · rw [if_neg h1]; congr 1; symm; rw [decide_eq_false_iff_not]; exact fun h => h1 ⟨h.1, h.2.1⟩
-- RateOk spec
theorem spec_RateOk_eq (q t d : Int) : spec_RateOk.f q t d = some (rateOk q t d) := by
  unfold spec_RateOk.f rateOk
  simp only [spec_l01In_eq, Option.bind_some, decide_eq_true_eq]
  by_cases h1 : 0 ≤ q ∧ q ≤ 40
  · rw [if_pos h1]
    by_cases h2 : 1 ≤ t ∧ t ≤ 100000
    · rw [if_pos h2, w64 (by omega) (by omega), w64 (by omega) (by omega)]
      simp only [h1.1, h1.2, h2.1, h2.2, true_and]
    · rw [if_neg h2]; congr 1; symm; rw [decide_eq_false_iff_not]; exact fun h => h2 ⟨h.2.2.1, h.2.2.2.1⟩
  · rw [if_neg h1]; congr 1; symm; rw [decide_eq_false_iff_not]; exact fun h => h1 ⟨h.1, h.2.1⟩
-- LAW FnExactRateOk
theorem FnExactRateOk (a0_0 a0_1 a0_2 : Int) : ∃ k : Nat, (fun _ => laws_FnExactRateOk.f a0_0 a0_1 a0_2) k = some true := by
  refine ⟨0, ?_⟩
  simp [laws_FnExactRateOk.f, laws_toRate.f, spec_RateOk_eq, impl_RateOk_eq]

end Go.Proofs.Ytgknomboljhhnaa.Pure
