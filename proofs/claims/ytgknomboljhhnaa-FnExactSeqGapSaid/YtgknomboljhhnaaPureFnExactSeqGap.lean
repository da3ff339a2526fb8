/- The pure statement of the law FnExactSeqGap: over numbers and lists alone, the printed function answers true. Conditions: none beyond the sizes of what a machine holds. -/
import Derived.Test.YtgknomboljhhnaaPFnExactSeqGapx1
import Derived.Laws.BitsLemmas
namespace Go.Proofs.Ytgknomboljhhnaa.Pure
open Go.RowKit Go.Proofs.Ytgknomboljhhnaa.PFnExactSeqGap Go.Proofs.YtgknomboljhhnaaW.PrintWords Go.Proofs.YtgknomboljhhnaaW.PrintLast Go.Proofs.YtgknomboljhhnaaW.PrintMore
set_option linter.unusedVariables false
set_option linter.unusedSimpArgs false

-- base: whole numbers
theorem wf64 {n : Int} (h : (Lit.int .i64 n).wf = true) : -9223372036854775808 ≤ n ∧ n ≤ 9223372036854775807 := by
  simp [Lit.wf, IntKind.min, IntKind.max, IntKind.signed, IntKind.bits] at h
  omega
theorem w64 {e : Int} (h1 : -9223372036854775808 ≤ e) (h2 : e ≤ 9223372036854775807) : wrap64 e = e := by unfold wrap64; omega
theorem tmod_pos {a b : Int} (h : 0 ≤ a) : Int.tmod a b = a % b := Int.tmod_eq_emod_of_nonneg h
theorem tdiv_pos {a b : Int} (h : 0 ≤ a) : Int.tdiv a b = a / b := Int.tdiv_eq_ediv_of_nonneg h
theorem w64_wf (e : Int) : -9223372036854775808 ≤ wrap64 e ∧ wrap64 e ≤ 9223372036854775807 := by unfold wrap64; omega
-- base: rounds
theorem Ev.mk_ {α : Type} {g : Nat → Option α} {r : α} (K : Nat) (h : ∀ k, K ≤ k → g k = some r) : Ev g r := ⟨K, h⟩
theorem Ev.succ {α : Type} {g : Nat → Option α} {r : α} (h : ∀ k, g (k + 1) = some r) : Ev g r := ⟨1, fun k hk => by obtain ⟨m, rfl⟩ : ∃ m, k = m + 1 := ⟨k - 1, by omega⟩; exact h m⟩
theorem Ev.some {α : Type} (r : α) : Ev (fun _ => Option.some r) r := ⟨0, fun _ _ => rfl⟩
theorem Ev.const {α : Type} {o : Option α} {r : α} (h : o = Option.some r) : Ev (fun _ => o) r := ⟨0, fun _ _ => h⟩
theorem Ev.ite {α : Type} {c : Prop} [Decidable c] {g f : Nat → Option α} {r : α} (h1 : c → Ev g r) (h2 : ¬ c → Ev f r) : Ev (fun k => if c then g k else f k) r := by
  by_cases h : c
  · simpa only [if_pos h] using h1 h
  · simpa only [if_neg h] using h2 h
theorem Ev.bindc {α β : Type} {o : Option α} {f : Nat → α → Option β} {a : α} {r : β} (h : o = Option.some a) (k : Ev (fun n => f n a) r) : Ev (fun n => o.bind (f n)) r := by
  subst h; exact k
-- within
theorem impl_within_eq (a b c : Int) : impl_within.f a b c = some (decide (b ≤ a ∧ a ≤ c)) := by
  unfold impl_within.f
  by_cases h : a ≥ b
  · rw [if_pos h]; simp [show b ≤ a from h]
  · rw [if_neg h]; simp; omega
-- l01In
theorem spec_l01In_eq (a b c : Int) : spec_l01In.f a b c = some (decide (b ≤ a ∧ a ≤ c)) := by
  unfold spec_l01In.f
  by_cases h : a ≥ b
  · rw [if_pos h]; simp [show b ≤ a from h]
  · rw [if_neg h]; simp; omega
-- isNumber
theorem impl_isNumber_eq (a : Int) : impl_isNumber.f a = some (decide (0 ≤ a ∧ a ≤ 65535)) := by
  unfold impl_isNumber.f; rw [impl_within_eq]; rfl
-- SeqGap value
def seqGap (a b : Int) : Int := if 0 ≤ a ∧ a ≤ 65535 ∧ 0 ≤ b ∧ b ≤ 65535 then (if b - a > 32767 then b - a - 65536 else if b - a < -32768 then b - a + 65536 else b - a) else 0
-- SeqGap impl
theorem impl_SeqGap_eq (k : Nat) (a b : Int) : impl_SeqGap.f (k + 1) a b = some (seqGap a b) := by
  unfold impl_SeqGap.f seqGap
  rw [impl_isNumber_eq, impl_isNumber_eq]
  by_cases h1 : 0 ≤ a ∧ a ≤ 65535
  · by_cases h2 : 0 ≤ b ∧ b ≤ 65535
    · simp only [h1, h2, and_self, decide_true, Option.bind_some, if_true, impl_SeqGap.j0, Bool.not_true]
      have e : Int.tmod (wrap64 (wrap64 (b - a) + 65536)) 65536 = (b - a + 65536) % 65536 := by
        rw [w64 (e := b - a) (by omega) (by omega), w64 (by omega) (by omega), tmod_pos (by omega)]
      rw [e, w64 (by omega) (by omega)]
      rw [if_neg (by decide)]
      by_cases h3 : b - a > 32767
      · rw [if_pos h3, if_pos (by omega)]; congr 1; omega
      · rw [if_neg h3]
        by_cases h4 : b - a < -32768
        · rw [if_pos h4, if_neg (by omega)]; congr 1; omega
        · rw [if_neg h4]
          by_cases h5 : 0 ≤ b - a
          · rw [if_neg (by omega)]; congr 1; omega
          · rw [if_pos (by omega)]; congr 1; omega
    · rw [if_neg (fun h => h2 h.2.2)]
      simp [h1, h2, impl_SeqGap.j0]
  · rw [if_neg (fun h => h1 ⟨h.1, h.2.1⟩)]
    simp [h1, impl_SeqGap.j0]
theorem impl_SeqGap_ev (a b : Int) : Ev (fun k => impl_SeqGap.f k a b) (seqGap a b) := Ev.succ fun k => impl_SeqGap_eq k a b
-- SeqGap spec
theorem spec_SeqGap_eq (k : Nat) (a b : Int) : spec_SeqGap.f (k + 1) a b = some (seqGap a b) := by
  unfold spec_SeqGap.f seqGap
  rw [spec_l01In_eq, spec_l01In_eq]
  by_cases h1 : 0 ≤ a ∧ a ≤ 65535
  · by_cases h2 : 0 ≤ b ∧ b ≤ 65535
    · simp only [h1, h2, and_self, decide_true, Option.bind_some, if_true, spec_SeqGap.j0, Bool.not_true]
      have e : wrap64 (b - a) = b - a := w64 (by omega) (by omega)
      have e1 : wrap64 (b - a - 65536) = b - a - 65536 := w64 (by omega) (by omega)
      have e2 : wrap64 (b - a + 65536) = b - a + 65536 := w64 (by omega) (by omega)
      rw [e, e1, e2, if_neg (by decide)]
      by_cases h3 : b - a > 32767
      · rw [if_pos h3, if_pos h3, if_neg (by omega)]
      · rw [if_neg h3, if_neg h3]
        by_cases h4 : b - a < -32768
        · rw [if_pos h4, if_pos h4]
        · rw [if_neg h4, if_neg h4]
    · rw [if_neg (fun h => h2 h.2.2)]
      simp [h1, h2, spec_SeqGap.j0]
  · rw [if_neg (fun h => h1 ⟨h.1, h.2.1⟩)]
    simp [h1, spec_SeqGap.j0]
theorem spec_SeqGap_ev (a b : Int) : Ev (fun k => spec_SeqGap.f k a b) (seqGap a b) := Ev.succ fun k => spec_SeqGap_eq k a b
-- LAW FnExactSeqGap
theorem FnExactSeqGap : laws_FnExactSeqGap.Pure := by
  intro a b _ _
  refine ⟨1, ?_⟩
  unfold laws_FnExactSeqGap.f
  rw [spec_SeqGap_eq, impl_SeqGap_eq]; simp

end Go.Proofs.Ytgknomboljhhnaa.Pure
