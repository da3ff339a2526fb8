/- The pure statement of the law FnExactReadPacket: over numbers and lists alone, the printed function answers true. Conditions: none beyond the sizes of what a machine holds. -/
import Derived.Test.YtgknomboljhhnaaPFnExactReadPacketx2
import Derived.Laws.BitsLemmas
namespace Go.Proofs.Ytgknomboljhhnaa.Pure
open Go.RowKit Go.Proofs.Ytgknomboljhhnaa.PFnExactReadPacket Go.Proofs.YtgknomboljhhnaaW.PrintWords Go.Proofs.YtgknomboljhhnaaW.PrintLast Go.Proofs.YtgknomboljhhnaaW.PrintMore
set_option linter.unusedVariables false
set_option linter.unusedSimpArgs false

-- base: whole numbers
theorem wf64 {n : Int} (h : (Lit.int .i64 n).wf = true) : -9223372036854775808 ≤ n ∧ n ≤ 9223372036854775807 := by
  simp [Lit.wf, IntKind.min, IntKind.max, IntKind.signed, IntKind.bits] at h
  omega
theorem w64 {e : Int} (h1 : -9223372036854775808 ≤ e) (h2 : e ≤ 9223372036854775807) : wrap64 e = e := by unfold wrap64; omega
theorem tmod_pos {a b : Int} (h : 0 ≤ a) : Int.tmod a b = a % b := Int.tmod_eq_emod_of_nonneg h
theorem tdiv_pos {a b : Int} (h : 0 ≤ a) : Int.tdiv a b = a / b := Int.tdiv_eq_ediv_of_nonneg h
theorem w64_wf (e : Int) : -9223372036854775808 ≤ wrap64 e ∧ wrap64 e ≤ 9223372036854775807 := by unfold wrap64; omega
-- within
theorem impl_within_eq (a b c : Int) : impl_within.f a b c = some (decide (b ≤ a ∧ a ≤ c)) := by
  unfold impl_within.f
  by_cases h : a ≥ b
  · rw [if_pos h]; simp [show b ≤ a from h]
  · rw [if_neg h]; simp; omega
-- isNumber
theorem impl_isNumber_eq (a : Int) : impl_isNumber.f a = some (decide (0 ≤ a ∧ a ≤ 65535)) := by
  unfold impl_isNumber.f; rw [impl_within_eq]; rfl
-- PacketOk value
def packetOk (s : Int) (b : ByteArray) : Bool := decide (0 ≤ s ∧ s ≤ 65535 ∧ 1 ≤ b.size ∧ b.size ≤ 400)
theorem packetOk_iff (s : Int) (b : ByteArray) : packetOk s b = true ↔ 0 ≤ s ∧ s ≤ 65535 ∧ 1 ≤ b.size ∧ b.size ≤ 400 := by simp [packetOk]
-- PacketOk impl
theorem impl_PacketOk_eq (s : Int) (f l : Bool) (b : ByteArray) : impl_PacketOk.f s f l b = some (packetOk s b) := by
  unfold impl_PacketOk.f packetOk
  simp only [impl_isNumber_eq, impl_within_eq, Option.bind_some, decide_eq_true_eq]
  split
  · congr 1; rw [decide_eq_decide]; omega
  · congr 1; symm; rw [decide_eq_false_iff_not]; omega
-- flags
theorem bits_or_byte (x y : Int) (hx : 0 ≤ x) (hx1 : x ≤ 255) (hy : 0 ≤ y) (hy1 : y ≤ 255) : Go.bits .or .i64 (x * 256) y = x * 256 + y :=
  bits_join .i64 62 (by decide) (fun n h0 h1 => by rw [IntKind.wrap_i64]; omega) 8 _ _ (by omega) (by omega) (by omega) (by omega) (by omega) (by omega)
-- ReadPacket value
def readPacket (a : ByteArray) : Int × Bool × Bool × ByteArray × Bool :=
  if a.size < 4 ∨ a.size > 403 ∨ bt a 2 > 3 then (0, false, false, ⟨#[]⟩, false)
  else (256 * bt a 0 + bt a 1, bt a 2 % 2 == 1, decide (bt a 2 ≥ 2), a.extract 3 a.size, true)
-- ReadPacket spec
theorem spec_ReadPacket_eq (a : ByteArray) : spec_ReadPacket.f a = some (readPacket a) := by
  unfold spec_ReadPacket.f readPacket
  have b0 := bt_range a 0
  have b1 := bt_range a 1
  have b2 := bt_range a 2
  by_cases h1 : a.size < 4
  · rw [if_pos (by omega), if_pos (.inl h1)]
  · rw [if_neg (by omega)]
    by_cases h2 : a.size > 403
    · rw [if_pos (by omega), if_pos (.inr (.inl h2))]
    · rw [if_neg (by omega), if_pos (by omega)]
      by_cases h3 : bt a 2 > 3
      · rw [if_pos h3, if_pos (.inr (.inr h3))]
      · rw [if_neg h3, if_pos (by omega), if_pos (by omega), if_pos (by omega), if_neg (by omega), w64 (e := bt a 0) (by omega) (by omega), w64 (e := bt a 1) (by omega) (by omega), w64 (e := 256 * bt a 0) (by omega) (by omega), w64 (by omega) (by omega), tmod_pos (by omega)]
-- ReadPacket impl
theorem impl_ReadPacket_eq (k : Nat) (a : ByteArray) : impl_ReadPacket.f (k + 1) a = some (readPacket a) := by
  unfold impl_ReadPacket.f readPacket
  have b0 := bt_range a 0
  have b1 := bt_range a 1
  have b2 := bt_range a 2
  by_cases h1 : a.size < 4
  · rw [if_pos (by omega), if_pos (.inl h1)]; simp [impl_ReadPacket.j0]
  · rw [if_neg (by omega), if_pos (by omega)]
    by_cases h3 : bt a 2 > 3
    · rw [if_pos (.inr (.inr h3))]; simp [impl_ReadPacket.j0, h3]
    · have hd : decide (bt a 2 > 3) = false := by rw [decide_eq_false_iff_not]; exact h3
      rw [hd]
      simp only [impl_ReadPacket.j0]
      rw [if_neg (by decide), if_pos (by omega), if_pos (by omega), if_pos (by omega), if_pos (by omega), w64 (e := bt a 0) (by omega) (by omega), w64 (e := bt a 1) (by omega) (by omega), w64 (e := bt a 0 * 256) (by omega) (by omega), bits_or_byte _ _ (by omega) (by omega) (by omega) (by omega), impl_PacketOk_eq]
      have hs : (a.extract 3 a.size).size = a.size - 3 := by simp [ByteArray.size_extract]
      by_cases h2 : a.size > 403
      · have hp : ¬ packetOk (bt a 0 * 256 + bt a 1) (a.extract 3 a.size) = true := fun h => by have := (packetOk_iff _ _).1 h; omega
        simp only [Option.bind_some]
        rw [if_neg hp, if_pos (.inr (.inl h2))]
      · have hp : packetOk (bt a 0 * 256 + bt a 1) (a.extract 3 a.size) = true := (packetOk_iff _ _).2 (by omega)
        simp only [Option.bind_some]
        rw [if_pos hp, if_neg (show ¬ (a.size < 4 ∨ a.size > 403 ∨ bt a 2 > 3) by omega)]
        have e : ∀ z : Int, 0 ≤ z → z ≤ 3 → (Go.bits .and .u8 z 1 == 1) = (z % 2 == 1) ∧ (Go.bits .and .u8 z 2 == 2) = decide (z ≥ 2) := by
          intro z h0 h1
          obtain rfl | rfl | rfl | rfl : z = 0 ∨ z = 1 ∨ z = 2 ∨ z = 3 := by omega
          all_goals decide +kernel
        rw [(e (bt a 2) (by omega) (by omega)).1, (e (bt a 2) (by omega) (by omega)).2, Int.mul_comm (bt a 0) 256]
-- eqPacket
theorem laws_eqPacket_self (s : Int) (f l : Bool) (b : ByteArray) : laws_eqPacket.f s f l b s f l b = some true := by
  simp [laws_eqPacket.f]
-- LAW FnExactReadPacket
theorem FnExactReadPacket : laws_FnExactReadPacket.Pure := by
  intro a _
  refine ⟨1, ?_⟩
  unfold laws_FnExactReadPacket.f
  split
  · rfl
  · rw [spec_ReadPacket_eq, impl_ReadPacket_eq]
    simp [laws_eqPacket_self]

end Go.Proofs.Ytgknomboljhhnaa.Pure
