/- The pure statement of the law FnRound: over numbers and lists alone, the printed function answers true. Conditions: none beyond the sizes of what a machine holds. -/
import Derived.Test.YtgknomboljhhnaaQFnRoundx1
import Derived.Laws.BitsLemmas
namespace Go.Proofs.Ytgknomboljhhnaa.Pure
open Go.RowKit Go.Proofs.Ytgknomboljhhnaa.QFnRound Go.Proofs.YtgknomboljhhnaaW.PrintWords Go.Proofs.YtgknomboljhhnaaW.PrintLast Go.Proofs.YtgknomboljhhnaaW.PrintMore
set_option linter.unusedVariables false
set_option linter.unusedSimpArgs false

-- base: whole numbers
theorem wf64 {n : Int} (h : (Lit.int .i64 n).wf = true) : -9223372036854775808 ≤ n ∧ n ≤ 9223372036854775807 := by
  simp [Lit.wf, IntKind.min, IntKind.max, IntKind.signed, IntKind.bits] at h
  omega
theorem w64 {e : Int} (h1 : -9223372036854775808 ≤ e) (h2 : e ≤ 9223372036854775807) : wrap64 e = e := by unfold wrap64; omega
theorem tmod_pos {a b : Int} (h : 0 ≤ a) : Int.tmod a b = a % b := Int.tmod_eq_emod_of_nonneg h
theorem tdiv_pos {a b : Int} (h : 0 ≤ a) : Int.tdiv a b = a / b := Int.tdiv_eq_ediv_of_nonneg h
theorem w64_wf (e : Int) : -9223372036854775808 ≤ wrap64 e ∧ wrap64 e ≤ 9223372036854775807 := by unfold wrap64; omega
-- base: rounds
theorem Ev.mk_ {α : Type} {g : Nat → Option α} {r : α} (K : Nat) (h : ∀ k, K ≤ k → g k = some r) : Ev g r := ⟨K, h⟩
theorem Ev.succ {α : Type} {g : Nat → Option α} {r : α} (h : ∀ k, g (k + 1) = some r) : Ev g r := ⟨1, fun k hk => by obtain ⟨m, rfl⟩ : ∃ m, k = m + 1 := ⟨k - 1, by omega⟩; exact h m⟩
theorem Ev.some {α : Type} (r : α) : Ev (fun _ => Option.some r) r := ⟨0, fun _ _ => rfl⟩
theorem Ev.const {α : Type} {o : Option α} {r : α} (h : o = Option.some r) : Ev (fun _ => o) r := ⟨0, fun _ _ => h⟩
theorem Ev.ite {α : Type} {c : Prop} [Decidable c] {g f : Nat → Option α} {r : α} (h1 : c → Ev g r) (h2 : ¬ c → Ev f r) : Ev (fun k => if c then g k else f k) r := by
  by_cases h : c
  · simpa only [if_pos h] using h1 h
  · simpa only [if_neg h] using h2 h
theorem Ev.pos {α : Type} {c : Prop} [Decidable c] {g f : Nat → Option α} {r : α} (hc : c) (h : Ev g r) : Ev (fun k => if c then g k else f k) r := by
  simpa only [if_pos hc] using h
theorem Ev.neg {α : Type} {c : Prop} [Decidable c] {g f : Nat → Option α} {r : α} (hc : ¬ c) (h : Ev f r) : Ev (fun k => if c then g k else f k) r := by
  simpa only [if_neg hc] using h
theorem Ev.bindc {α β : Type} {o : Option α} {f : Nat → α → Option β} {a : α} {r : β} (h : o = Option.some a) (k : Ev (fun n => f n a) r) : Ev (fun n => o.bind (f n)) r := by
  subst h; exact k
-- within
theorem impl_within_eq (a b c : Int) : impl_within.f a b c = some (decide (b ≤ a ∧ a ≤ c)) := by
  unfold impl_within.f
  by_cases h : a ≥ b
  · rw [if_pos h]; simp [show b ≤ a from h]
  · rw [if_neg h]; simp; omega
-- isNumber
theorem impl_isNumber_eq (a : Int) : impl_isNumber.f a = some (decide (0 ≤ a ∧ a ≤ 65535)) := by
  unfold impl_isNumber.f; rw [impl_within_eq]; rfl
-- SeqPlus value
def seqPlus (a b : Int) : Int := if 0 ≤ a ∧ a ≤ 65535 ∧ 0 ≤ b ∧ b ≤ 65535 then (a + b) % 65536 else 0
-- SeqPlus impl
theorem impl_SeqPlus_eq (a b : Int) : impl_SeqPlus.f a b = some (seqPlus a b) := by
  unfold impl_SeqPlus.f seqPlus
  rw [impl_isNumber_eq, impl_isNumber_eq]
  simp only [Option.bind_some, decide_eq_true_eq]
  by_cases h1 : 0 ≤ a ∧ a ≤ 65535
  · by_cases h2 : 0 ≤ b ∧ b ≤ 65535
    · rw [if_pos h1, if_pos h2, if_pos ⟨h1.1, h1.2, h2⟩, w64 (by omega) (by omega), tmod_pos (by omega)]
    · rw [if_pos h1, if_neg h2, if_neg (fun h => h2 h.2.2)]
  · rw [if_neg h1, if_neg (fun h => h1 ⟨h.1, h.2.1⟩)]
-- SeqGap value
def seqGap (a b : Int) : Int := if 0 ≤ a ∧ a ≤ 65535 ∧ 0 ≤ b ∧ b ≤ 65535 then (if b - a > 32767 then b - a - 65536 else if b - a < -32768 then b - a + 65536 else b - a) else 0
-- SeqGap impl
theorem impl_SeqGap_eq (k : Nat) (a b : Int) : impl_SeqGap.f (k + 1) a b = some (seqGap a b) := by
  unfold impl_SeqGap.f seqGap
  rw [impl_isNumber_eq, impl_isNumber_eq]
  by_cases h1 : 0 ≤ a ∧ a ≤ 65535
  · by_cases h2 : 0 ≤ b ∧ b ≤ 65535
    · simp only [h1, h2, and_self, decide_true, Option.bind_some, if_true, impl_SeqGap.j0, Bool.not_true]
      have e : Int.tmod (wrap64 (wrap64 (b - a) + 65536)) 65536 = (b - a + 65536) % 65536 := by
        rw [w64 (e := b - a) (by omega) (by omega), w64 (by omega) (by omega), tmod_pos (by omega)]
      rw [e, w64 (by omega) (by omega)]
      rw [if_neg (by decide)]
      by_cases h3 : b - a > 32767
      · rw [if_pos h3, if_pos (by omega)]; congr 1; omega
      · rw [if_neg h3]
        by_cases h4 : b - a < -32768
        · rw [if_pos h4, if_neg (by omega)]; congr 1; omega
        · rw [if_neg h4]
          by_cases h5 : 0 ≤ b - a
          · rw [if_neg (by omega)]; congr 1; omega
          · rw [if_pos (by omega)]; congr 1; omega
    · rw [if_neg (fun h => h2 h.2.2)]
      simp [h1, h2, impl_SeqGap.j0]
  · rw [if_neg (fun h => h1 ⟨h.1, h.2.1⟩)]
    simp [h1, impl_SeqGap.j0]
theorem impl_SeqGap_ev (a b : Int) : Ev (fun k => impl_SeqGap.f k a b) (seqGap a b) := Ev.succ fun k => impl_SeqGap_eq k a b
-- lists: rd and drop
theorem rd_drop (l : List Int) (i : Nat) (h : i < l.length) : l.drop i = rd l i :: l.drop (i + 1) := by
  rw [List.drop_eq_getElem_cons h]
  congr 1
  simp [rd, List.getD_eq_getElem?_getD, List.getElem?_eq_getElem h]
theorem w64_succ {i n : Nat} (h : i < n) (hn : n ≤ 9223372036854775807) : wrap64 ((i : Int) + 1) = ((i + 1 : Nat) : Int) := by
  rw [w64 (by omega) (by omega)]; omega
-- a byte's mask
theorem bits_and_255 (y : Int) : 0 ≤ Go.bits .and .i64 y 255 ∧ Go.bits .and .i64 y 255 ≤ 255 := by
  have h : (BitVec.ofInt 64 y &&& BitVec.ofInt 64 255).toNat ≤ 255 := by
    rw [BitVec.toNat_and]
    exact Nat.le_trans Nat.and_le_right (by decide)
  have e : Go.bits .and .i64 y 255 = IntKind.i64.wrap ((BitVec.ofInt 64 y &&& BitVec.ofInt 64 255).toNat : Int) := rfl
  rw [e, IntKind.wrap_i64]
  omega
-- draws: l01New
theorem spec_l01New_loop (b : List Int) (hb : b.length ≤ 1048576) : ∀ (d i : Nat) (h : Int) (k : Nat), b.length - i = d → d < k → ∃ h', ∀ k', k ≤ k' → spec_l01New.l0 k' b h i = some (b, 0, h') := by
  intro d
  induction d with
  | zero =>
    intro i h k hd hk
    refine ⟨h, fun k' hk' => ?_⟩
    obtain ⟨k', rfl⟩ : ∃ m, k' = m + 1 := ⟨k' - 1, by omega⟩
    simp only [spec_l01New.l0]
    rw [if_neg (by omega)]
  | succ d ih =>
    intro i h k hd hk
    by_cases h4 : (i : Int) < 4000
    · obtain ⟨h', hh⟩ := ih (i + 1) (Go.bits .and .i64 (wrap64 ((wrap64 ((wrap64 (h * 131)) + (wrap64 (rd b i)))) + 7)) 1073741823) (k - 1) (by omega) (by omega)
      refine ⟨h', fun k' hk' => ?_⟩
      obtain ⟨k', rfl⟩ : ∃ m, k' = m + 1 := ⟨k' - 1, by omega⟩
      simp only [spec_l01New.l0]
      rw [if_pos (by omega), if_pos h4, if_pos (by omega), w64_succ (n := b.length) (by omega) (by omega)]
      exact hh k' (by omega)
    · refine ⟨h, fun k' hk' => ?_⟩
      obtain ⟨k', rfl⟩ : ∃ m, k' = m + 1 := ⟨k' - 1, by omega⟩
      simp only [spec_l01New.l0]
      rw [if_pos (by omega), if_neg h4]
theorem spec_l01New_ev (b : List Int) (hb : b.length ≤ 1048576) : ∃ h, Ev (fun k => spec_l01New.f k b) (b, 0, h) := by
  obtain ⟨h, hh⟩ := spec_l01New_loop b hb b.length 0 (wrap64 (94701 + (b.length : Int))) (b.length + 1) (by omega) (by omega)
  exact ⟨h, b.length + 1, fun k hk => hh k hk⟩
-- draws: l01Byte
theorem spec_l01Byte_some (b : List Int) (hb : b.length ≤ 1048576) (i h : Int) (h0 : 0 ≤ i) (h1 : i ≤ b.length) :
    ∃ x i' h', spec_l01Byte.f b i h = some (x, i', h') ∧ 0 ≤ x ∧ x ≤ 255 ∧ 0 ≤ i' ∧ i' ≤ b.length := by
  unfold spec_l01Byte.f
  by_cases hi : i < b.length
  · rw [if_pos hi, if_pos h0, w64 (e := i + 1) (by omega) (by omega)]
    refine ⟨_, _, _, rfl, ?_, ?_, by omega, by omega⟩
    · exact (bits_and_255 _).1
    · exact (bits_and_255 _).2
  · rw [if_neg hi]
    refine ⟨_, _, _, rfl, ?_, ?_, h0, h1⟩
    · exact (bits_and_255 _).1
    · exact (bits_and_255 _).2
-- draws: l01Below
theorem spec_l01Below_some (b : List Int) (hb : b.length ≤ 1048576) (i h n : Int) (h0 : 0 ≤ i) (h1 : i ≤ b.length) :
    ∃ x i' h', spec_l01Below.f b i h n = some (x, i', h') ∧ 0 ≤ x ∧ (n ≤ 0 → x = 0) ∧ (0 < n → x < n) ∧ 0 ≤ i' ∧ i' ≤ b.length := by
  unfold spec_l01Below.f
  by_cases hn : n ≤ 0
  · rw [if_pos hn]
    exact ⟨0, i, h, rfl, by omega, fun _ => rfl, fun h => by omega, h0, h1⟩
  · rw [if_neg hn]
    obtain ⟨x, i1, h1', e1, a1, b1, c1, d1⟩ := spec_l01Byte_some b hb i h h0 h1
    by_cases h256 : n ≤ 256
    · rw [if_pos h256, e1]
      simp only [Option.bind_some]
      rw [if_neg (by omega), tmod_pos a1]
      exact ⟨_, _, _, rfl, Int.emod_nonneg _ (by omega), fun h => by omega, fun _ => Int.emod_lt_of_pos _ (by omega), c1, d1⟩
    · obtain ⟨y, i2, h2', e2, a2, b2, c2, d2⟩ := spec_l01Byte_some b hb i1 h1' c1 d1
      obtain ⟨z, i3, h3', e3, a3, b3, c3, d3⟩ := spec_l01Byte_some b hb i2 h2' c2 d2
      obtain ⟨u, i4, h4', e4, a4, b4, c4, d4⟩ := spec_l01Byte_some b hb i3 h3' c3 d3
      rw [if_neg h256, e1]
      simp only [Option.bind_some]
      rw [e2]
      simp only [Option.bind_some]
      rw [e3]
      simp only [Option.bind_some]
      rw [e4]
      simp only [Option.bind_some]
      rw [if_neg (by omega), w64 (e := x * 16777216) (by omega) (by omega), w64 (e := y * 65536) (by omega) (by omega), w64 (e := z * 256) (by omega) (by omega), w64 (e := x * 16777216 + y * 65536) (by omega) (by omega), w64 (e := x * 16777216 + y * 65536 + z * 256) (by omega) (by omega), w64 (e := x * 16777216 + y * 65536 + z * 256 + u) (by omega) (by omega), tmod_pos (by omega)]
      exact ⟨_, _, _, rfl, Int.emod_nonneg _ (by omega), fun h => by omega, fun _ => Int.emod_lt_of_pos _ (by omega), c4, d4⟩
-- draws: DrawPlaces
theorem spec_DrawPlaces_loop (b : List Int) (hb : b.length ≤ 1048576) : ∀ (d : Nat) (o : List Int) (i h : Int), 12 - o.length = d → o.length ≤ 12 → 0 ≤ i → i ≤ b.length → (∀ x ∈ o, 0 ≤ x ∧ x < 10000) →
    ∃ r : List Int, r.length = 12 ∧ (∀ x ∈ r, 0 ≤ x ∧ x < 10000) ∧ ∀ k, d < k → spec_DrawPlaces.l0 k o o.length b i h = some r := by
  intro d
  induction d with
  | zero =>
    intro o i h hd ho h0 h1 hx
    refine ⟨o, by omega, hx, fun k hk => ?_⟩
    obtain ⟨k, rfl⟩ : ∃ m, k = m + 1 := ⟨k - 1, by omega⟩
    simp only [spec_DrawPlaces.l0]
    rw [if_neg (by omega)]
  | succ d ih =>
    intro o i h hd ho h0 h1 hx
    obtain ⟨x, i', h', e, a0, _, a1, a2, a3⟩ := spec_l01Below_some b hb i h 10000 h0 h1
    obtain ⟨r, hr, hr2, hk2⟩ := ih (o ++ [x]) i' h' (by simp; omega) (by simp; omega) a2 a3 (by
      intro y hy
      rcases List.mem_append.1 hy with hy | hy
      · exact hx y hy
      · rw [List.mem_singleton.1 hy]; exact ⟨a0, a1 (by omega)⟩)
    refine ⟨r, hr, hr2, fun k hk => ?_⟩
    obtain ⟨k, rfl⟩ : ∃ m, k = m + 1 := ⟨k - 1, by omega⟩
    simp only [spec_DrawPlaces.l0]
    rw [if_pos (by omega), e]
    simp only [Option.bind_some]
    rw [if_pos (by omega), w64_succ (n := 12) (by omega) (by omega)]
    have := hk2 k (by omega)
    simpa using this
theorem spec_DrawPlaces_ev (b : List Int) (hb : b.length ≤ 1048576) : ∃ r : List Int, r.length = 12 ∧ (∀ x ∈ r, 0 ≤ x ∧ x < 10000) ∧ Ev (fun k => spec_DrawPlaces.f k b) r := by
  obtain ⟨h, hn⟩ := spec_l01New_ev b hb
  obtain ⟨x, i1, h1, e1, _, _, c1, d1⟩ := spec_l01Byte_some b hb 0 h (by omega) (by omega)
  obtain ⟨r, hr, hr2, hk⟩ := spec_DrawPlaces_loop b hb 12 [] i1 h1 rfl (by simp) c1 d1 (by simp)
  refine ⟨r, hr, hr2, ?_⟩
  unfold spec_DrawPlaces.f
  refine Ev.bind hn ?_
  simp only [e1, Option.bind_some]
  exact ⟨13, fun k hk' => hk k (by omega)⟩
-- rd of a list
theorem rd_mem (l : List Int) (i : Nat) (h : i < l.length) : rd l i ∈ l := by
  simp [rd, List.getD_eq_getElem?_getD, List.getElem?_eq_getElem h]
-- LAW FnRound
theorem FnRound : laws_FnRound.Pure := by
  intro l _ _ _
  unfold laws_FnRound.f laws_big.f
  simp only [Option.bind_some, decide_eq_true_eq]
  by_cases hb : (l.length : Int) > 1048576
  · exact ⟨0, by rw [if_pos hb]⟩
  · obtain ⟨p, hp, hp2, k1, h1⟩ := spec_DrawPlaces_ev l (by omega)
    refine ⟨k1 + 1, ?_⟩
    have q0 := hp2 _ (rd_mem p 0 (by omega))
    have q1 := hp2 _ (rd_mem p 1 (by omega))
    have q2 := hp2 _ (rd_mem p 2 (by omega))
    have q3 := hp2 _ (rd_mem p 3 (by omega))
    have h1' : spec_DrawPlaces.f (k1 + 1) l = some p := h1 (k1 + 1) (by omega)
    rw [if_neg hb, h1']
    simp only [Option.bind_some, impl_SeqPlus_eq, impl_SeqGap_eq]
    have c0 : rd p ((0 : Nat) : Int) = rd p 0 := rfl
    have c1 : rd p ((1 : Nat) : Int) = rd p 1 := rfl
    have c2 : rd p ((2 : Nat) : Int) = rd p 2 := rfl
    have c3 : rd p ((3 : Nat) : Int) = rd p 3 := rfl
    rw [c0] at q0
    rw [c1] at q1
    rw [c2] at q2
    rw [c3] at q3
    have ea : Int.tmod (wrap64 (wrap64 (rd p 0 * 10000) + rd p 1)) 65536 = (rd p 0 * 10000 + rd p 1) % 65536 := by
      rw [w64 (e := rd p 0 * 10000) (by omega) (by omega), w64 (by omega) (by omega), tmod_pos (by omega)]
    have en : Int.tmod (wrap64 (wrap64 (rd p 2 * 10000) + rd p 3)) 32768 = (rd p 2 * 10000 + rd p 3) % 32768 := by
      rw [w64 (e := rd p 2 * 10000) (by omega) (by omega), w64 (by omega) (by omega), tmod_pos (by omega)]
    rw [ea, en]
    have ba : 0 ≤ (rd p 0 * 10000 + rd p 1) % 65536 ∧ (rd p 0 * 10000 + rd p 1) % 65536 < 65536 := by omega
    have bn : 0 ≤ (rd p 2 * 10000 + rd p 3) % 32768 ∧ (rd p 2 * 10000 + rd p 3) % 32768 < 32768 := by omega
    generalize (rd p 0 * 10000 + rd p 1) % 65536 = a at ba ⊢
    generalize (rd p 2 * 10000 + rd p 3) % 32768 = n at bn ⊢
    have s1 : seqPlus a n = (a + n) % 65536 := by unfold seqPlus; rw [if_pos (by omega)]
    have s2 : seqPlus ((a + n) % 65536) n = (a + 2 * n) % 65536 := by unfold seqPlus; rw [if_pos (by omega)]; omega
    have s3 : seqPlus a (2 * n) = (a + 2 * n) % 65536 := by unfold seqPlus; rw [if_pos (by omega)]
    have g1 : seqGap a ((a + n) % 65536) = n := by
      unfold seqGap
      rw [if_pos (by omega)]
      repeat' split
      all_goals omega
    have g2 : seqGap ((a + n) % 65536) a = -n := by
      unfold seqGap
      rw [if_pos (by omega)]
      repeat' split
      all_goals omega
    rw [w64 (e := -n) (by omega) (by omega), w64 (e := 2 * n) (by omega) (by omega), s1, g1, g2, s2, s3]
    rw [if_pos (by omega), if_pos (by omega), if_pos (by omega), if_pos (by omega), if_pos (by omega), if_pos (by omega), if_pos rfl, if_pos rfl]
    simp

end Go.Proofs.Ytgknomboljhhnaa.Pure
