/- The pure statement of the law FnExactPacketText: over numbers and lists alone, the printed function answers true. Conditions: none beyond the sizes of what a machine holds. -/
import Derived.Test.YtgknomboljhhnaaPFnExactPacketTextx1
import Derived.Laws.BitsLemmas
namespace Go.Proofs.Ytgknomboljhhnaa.Pure
open Go.RowKit Go.Proofs.Ytgknomboljhhnaa.PFnExactPacketText Go.Proofs.YtgknomboljhhnaaW.PrintWords Go.Proofs.YtgknomboljhhnaaW.PrintLast Go.Proofs.YtgknomboljhhnaaW.PrintMore
set_option linter.unusedVariables false
set_option linter.unusedSimpArgs false

-- base: whole numbers
theorem wf64 {n : Int} (h : (Lit.int .i64 n).wf = true) : -9223372036854775808 ≤ n ∧ n ≤ 9223372036854775807 := by
  simp [Lit.wf, IntKind.min, IntKind.max, IntKind.signed, IntKind.bits] at h
  omega
theorem w64 {e : Int} (h1 : -9223372036854775808 ≤ e) (h2 : e ≤ 9223372036854775807) : wrap64 e = e := by unfold wrap64; omega
theorem tmod_pos {a b : Int} (h : 0 ≤ a) : Int.tmod a b = a % b := Int.tmod_eq_emod_of_nonneg h
theorem tdiv_pos {a b : Int} (h : 0 ≤ a) : Int.tdiv a b = a / b := Int.tdiv_eq_ediv_of_nonneg h
theorem w64_wf (e : Int) : -9223372036854775808 ≤ wrap64 e ∧ wrap64 e ≤ 9223372036854775807 := by unfold wrap64; omega
-- within
theorem impl_within_eq (a b c : Int) : impl_within.f a b c = some (decide (b ≤ a ∧ a ≤ c)) := by
  unfold impl_within.f
  by_cases h : a ≥ b
  · rw [if_pos h]; simp [show b ≤ a from h]
  · rw [if_neg h]; simp; omega
-- l01In
theorem spec_l01In_eq (a b c : Int) : spec_l01In.f a b c = some (decide (b ≤ a ∧ a ≤ c)) := by
  unfold spec_l01In.f
  by_cases h : a ≥ b
  · rw [if_pos h]; simp [show b ≤ a from h]
  · rw [if_neg h]; simp; omega
-- isNumber
theorem impl_isNumber_eq (a : Int) : impl_isNumber.f a = some (decide (0 ≤ a ∧ a ≤ 65535)) := by
  unfold impl_isNumber.f; rw [impl_within_eq]; rfl
-- PacketOk value
def packetOk (s : Int) (b : ByteArray) : Bool := decide (0 ≤ s ∧ s ≤ 65535 ∧ 1 ≤ b.size ∧ b.size ≤ 400)
theorem packetOk_iff (s : Int) (b : ByteArray) : packetOk s b = true ↔ 0 ≤ s ∧ s ≤ 65535 ∧ 1 ≤ b.size ∧ b.size ≤ 400 := by simp [packetOk]
-- PacketOk impl
theorem impl_PacketOk_eq (s : Int) (f l : Bool) (b : ByteArray) : impl_PacketOk.f s f l b = some (packetOk s b) := by
  unfold impl_PacketOk.f packetOk
  simp only [impl_isNumber_eq, impl_within_eq, Option.bind_some, decide_eq_true_eq]
  split
  · congr 1; rw [decide_eq_decide]; omega
  · congr 1; symm; rw [decide_eq_false_iff_not]; omega
-- PacketOk spec
theorem spec_PacketOk_eq (s : Int) (f l : Bool) (b : ByteArray) : spec_PacketOk.f s f l b = some (packetOk s b) := by
  unfold spec_PacketOk.f packetOk
  simp only [spec_l01In_eq, Option.bind_some, decide_eq_true_eq]
  split
  · congr 1; rw [decide_eq_decide]; omega
  · congr 1; symm; rw [decide_eq_false_iff_not]; omega
-- szPacket
theorem laws_szPacket_eq (s : Int) (f l : Bool) (b : ByteArray) (n : Int) (h0 : 0 ≤ n) (h1 : n ≤ 1048576) (hb : b.size ≤ 9223372036854775807) :
    laws_szPacket.f s f l b n = some (if n < b.size then -1 else n - b.size) := by
  unfold laws_szPacket.f
  rw [w64 (by omega) (by omega)]
  split
  · rw [if_pos (by omega)]
  · rw [if_neg (by omega)]
-- PacketText spec
def packetText (s : Int) (f l : Bool) (b : ByteArray) : ByteArray × Bool :=
  if packetOk s b = true then (strOfNums [s / 256, s % 256, (if f = true then 1 else 0) + (if l = true then 2 else 0)] ++ b, true) else (⟨#[]⟩, false)
theorem spec_PacketText_eq (s : Int) (f l : Bool) (b : ByteArray) : spec_PacketText.f s f l b = some (packetText s f l b) := by
  unfold spec_PacketText.f packetText
  simp only [spec_PacketOk_eq, Option.bind_some]
  by_cases h : packetOk s b = true
  · have h' := (packetOk_iff s b).1 h
    rw [if_pos h, if_pos h, tdiv_pos (by omega), tmod_pos (by omega), w64 (by omega) (by omega), show s / 256 % 256 = s / 256 from by omega, show s % 256 % 256 = s % 256 from by omega]
    have hs : ∀ z : Int, (strOfNums [s / 256, s % 256, z]).size + b.size ≤ 9223372036854775807 := fun z => by rw [strOfNums_size]; simp only [List.length_cons, List.length_nil]; omega
    simp only [if_pos (hs _)]
    cases f <;> cases l <;> rfl
  · rw [if_neg h, if_neg h]
-- PacketText impl
theorem impl_PacketText_eq (s : Int) (f l : Bool) (b : ByteArray) : impl_PacketText.f s f l b = some (packetText s f l b) := by
  unfold impl_PacketText.f packetText
  simp only [impl_PacketOk_eq, Option.bind_some]
  by_cases h : packetOk s b = true
  · have h' := (packetOk_iff s b).1 h
    rw [if_pos h, if_pos h, show s / 256 % 256 = s / 256 from by omega]
    have hs : ∀ z : Int, (strOfNums [s / 256, s % 256, z]).size + b.size ≤ 9223372036854775807 := fun z => by rw [strOfNums_size]; simp only [List.length_cons, List.length_nil]; omega
    simp only [if_pos (hs _)]
    have e1 : Go.bits .or .u8 0 1 = 1 := by decide +kernel
    have e2 : Go.bits .or .u8 0 2 = 2 := by decide +kernel
    have e3 : Go.bits .or .u8 1 2 = 3 := by decide +kernel
    cases f <;> cases l <;> simp [e1, e2, e3]
  · rw [if_neg h, if_neg h]
-- LAW FnExactPacketText
theorem FnExactPacketText (a0_0 : Int) (a0_1 a0_2 : Bool) (a0_3 : ByteArray) (y0_3 : a0_3.size ≤ maxLen) : ∃ k : Nat, (fun _ => laws_FnExactPacketText.f a0_0 a0_1 a0_2 a0_3) k = some true := by
  refine ⟨0, ?_⟩
  simp only [laws_FnExactPacketText.f, laws_szPacket_eq a0_0 a0_1 a0_2 a0_3 1048576 (by omega) (by omega) y0_3, Option.bind_some]
  split
  · rfl
  · simp [laws_toPacket.f, spec_PacketText_eq, impl_PacketText_eq]

end Go.Proofs.Ytgknomboljhhnaa.Pure
