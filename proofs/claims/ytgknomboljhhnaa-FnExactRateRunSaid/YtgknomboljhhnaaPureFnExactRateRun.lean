/- The pure statement of the law FnExactRateRun: over numbers and lists alone, the printed function answers true. Conditions: none beyond the sizes of what a machine holds. -/
import Derived.Test.YtgknomboljhhnaaPFnExactRateRunx4
import Derived.Laws.BitsLemmas
namespace Go.Proofs.Ytgknomboljhhnaa.Pure
open Go.RowKit Go.Proofs.Ytgknomboljhhnaa.PFnExactRateRun Go.Proofs.YtgknomboljhhnaaW.PrintWords Go.Proofs.YtgknomboljhhnaaW.PrintLast Go.Proofs.YtgknomboljhhnaaW.PrintMore
set_option linter.unusedVariables false
set_option linter.unusedSimpArgs false

-- base: whole numbers
theorem wf64 {n : Int} (h : (Lit.int .i64 n).wf = true) : -9223372036854775808 ≤ n ∧ n ≤ 9223372036854775807 := by
  simp [Lit.wf, IntKind.min, IntKind.max, IntKind.signed, IntKind.bits] at h
  omega
theorem w64 {e : Int} (h1 : -9223372036854775808 ≤ e) (h2 : e ≤ 9223372036854775807) : wrap64 e = e := by unfold wrap64; omega
theorem tmod_pos {a b : Int} (h : 0 ≤ a) : Int.tmod a b = a % b := Int.tmod_eq_emod_of_nonneg h
theorem tdiv_pos {a b : Int} (h : 0 ≤ a) : Int.tdiv a b = a / b := Int.tdiv_eq_ediv_of_nonneg h
theorem w64_wf (e : Int) : -9223372036854775808 ≤ wrap64 e ∧ wrap64 e ≤ 9223372036854775807 := by unfold wrap64; omega
-- base: rounds
theorem Ev.mk_ {α : Type} {g : Nat → Option α} {r : α} (K : Nat) (h : ∀ k, K ≤ k → g k = some r) : Ev g r := ⟨K, h⟩
theorem Ev.succ {α : Type} {g : Nat → Option α} {r : α} (h : ∀ k, g (k + 1) = some r) : Ev g r := ⟨1, fun k hk => by obtain ⟨m, rfl⟩ : ∃ m, k = m + 1 := ⟨k - 1, by omega⟩; exact h m⟩
theorem Ev.some {α : Type} (r : α) : Ev (fun _ => Option.some r) r := ⟨0, fun _ _ => rfl⟩
theorem Ev.const {α : Type} {o : Option α} {r : α} (h : o = Option.some r) : Ev (fun _ => o) r := ⟨0, fun _ _ => h⟩
theorem Ev.ite {α : Type} {c : Prop} [Decidable c] {g f : Nat → Option α} {r : α} (h1 : c → Ev g r) (h2 : ¬ c → Ev f r) : Ev (fun k => if c then g k else f k) r := by
  by_cases h : c
  · simpa only [if_pos h] using h1 h
  · simpa only [if_neg h] using h2 h
theorem Ev.bindc {α β : Type} {o : Option α} {f : Nat → α → Option β} {a : α} {r : β} (h : o = Option.some a) (k : Ev (fun n => f n a) r) : Ev (fun n => o.bind (f n)) r := by
  subst h; exact k
-- within
theorem impl_within_eq (a b c : Int) : impl_within.f a b c = some (decide (b ≤ a ∧ a ≤ c)) := by
  unfold impl_within.f
  by_cases h : a ≥ b
  · rw [if_pos h]; simp [show b ≤ a from h]
  · rw [if_neg h]; simp; omega
-- l01In
theorem spec_l01In_eq (a b c : Int) : spec_l01In.f a b c = some (decide (b ≤ a ∧ a ≤ c)) := by
  unfold spec_l01In.f
  by_cases h : a ≥ b
  · rw [if_pos h]; simp [show b ≤ a from h]
  · rw [if_neg h]; simp; omega
-- RateOk value
def rateOk (q t d : Int) : Bool := decide (0 ≤ q ∧ q ≤ 40 ∧ 1 ≤ t ∧ t ≤ 100000 ∧ -8 * t ≤ d ∧ d ≤ 8 * t)
theorem rateOk_iff (q t d : Int) : rateOk q t d = true ↔ 0 ≤ q ∧ q ≤ 40 ∧ 1 ≤ t ∧ t ≤ 100000 ∧ -8 * t ≤ d ∧ d ≤ 8 * t := by simp [rateOk]
-- RateOk impl
theorem impl_RateOk_eq (q t d : Int) : impl_RateOk.f q t d = some (rateOk q t d) := by
  unfold impl_RateOk.f rateOk
  simp only [impl_within_eq, Option.bind_some, decide_eq_true_eq]
  by_cases h1 : 0 ≤ q ∧ q ≤ 40
  · rw [if_pos h1]
    by_cases h2 : 1 ≤ t ∧ t ≤ 100000
    · rw [if_pos h2, w64 (by omega) (by omega), w64 (by omega) (by omega)]
      simp only [h1.1, h1.2, h2.1, h2.2, true_and]
    · rw [if_neg h2]; congr 1; symm; rw [decide_eq_false_iff_not]; exact fun h => h2 ⟨h.2.2.1, h.2.2.2.1⟩
  · rw [if_neg h1]; congr 1; symm; rw [decide_eq_false_iff_not]; exact fun h => h1 ⟨h.1, h.2.1⟩
-- RateOk spec
theorem spec_RateOk_eq (q t d : Int) : spec_RateOk.f q t d = some (rateOk q t d) := by
  unfold spec_RateOk.f rateOk
  simp only [spec_l01In_eq, Option.bind_some, decide_eq_true_eq]
  by_cases h1 : 0 ≤ q ∧ q ≤ 40
  · rw [if_pos h1]
    by_cases h2 : 1 ≤ t ∧ t ≤ 100000
    · rw [if_pos h2, w64 (by omega) (by omega), w64 (by omega) (by omega)]
      simp only [h1.1, h1.2, h2.1, h2.2, true_and]
    · rw [if_neg h2]; congr 1; symm; rw [decide_eq_false_iff_not]; exact fun h => h2 ⟨h.2.2.1, h.2.2.2.1⟩
  · rw [if_neg h1]; congr 1; symm; rw [decide_eq_false_iff_not]; exact fun h => h1 ⟨h.1, h.2.1⟩
-- Brought value
def brought (n a b : Int) : Int := if b < a ∨ n < a then a else if n > b then b else n
-- Brought impl
theorem impl_Brought_eq (n a b : Int) : impl_Brought.f n a b = some (brought n a b) := by
  unfold impl_Brought.f brought mx mn
  congr 1
  repeat' split
  all_goals omega
-- Brought spec
theorem spec_Brought_eq (k : Nat) (n a b : Int) : spec_Brought.f (k + 1) n a b = some (brought n a b) := by
  unfold spec_Brought.f brought
  by_cases h : b < a
  · rw [if_pos h, if_pos (.inl h)]; simp [spec_Brought.j0]
  · rw [if_neg h]
    by_cases h2 : n < a
    · rw [if_pos (.inr h2)]; simp [spec_Brought.j0, h2]
    · rw [if_neg (fun e => e.elim h h2)]
      simp only [spec_Brought.j0, h2, decide_false]
      rw [if_neg (by decide)]
      split <;> rfl
theorem spec_Brought_ev (n a b : Int) : Ev (fun k => spec_Brought.f k n a b) (brought n a b) := Ev.succ fun k => spec_Brought_eq k n a b
-- RateNext value
def rateNext (q t d b : Int) : Int × Int × Int :=
  if rateOk q t d = true then
    let e := brought (d + brought b 0 400000 - t) (-8 * t) (8 * t)
    (brought (if e > t then q + 1 else if e < -t then q - 1 else q) 0 40, t, e)
  else (q, t, d)
-- RateNext impl
theorem impl_RateNext_eq (q t d b : Int) : impl_RateNext.f q t d b = some (rateNext q t d b) := by
  unfold impl_RateNext.f rateNext
  simp only [impl_RateOk_eq, Option.bind_some, impl_Brought_eq]
  by_cases h : rateOk q t d = true
  · rw [if_pos h, if_pos h]
    have h' := (rateOk_iff q t d).1 h
    have hb : 0 ≤ brought b 0 400000 ∧ brought b 0 400000 ≤ 400000 := by unfold brought; repeat' split
                                                                         all_goals omega
    rw [w64 (e := d + brought b 0 400000) (by omega) (by omega), w64 (e := d + brought b 0 400000 - t) (by omega) (by omega), w64 (e := -8 * t) (by omega) (by omega), w64 (e := 8 * t) (by omega) (by omega), w64 (e := -t) (by omega) (by omega), w64 (e := q + 1) (by omega) (by omega), w64 (e := q - 1) (by omega) (by omega)]
    generalize brought (d + brought b 0 400000 - t) (-8 * t) (8 * t) = e
    split
    · rfl
    · split <;> rfl
  · rw [if_neg h, if_neg h]
-- RateNext spec
theorem spec_RateNext_eq (k : Nat) (q t d b : Int) : spec_RateNext.f (k + 1) q t d b = some (rateNext q t d b) := by
  unfold spec_RateNext.f rateNext
  simp only [spec_RateOk_eq, Option.bind_some, spec_Brought_eq]
  by_cases h : rateOk q t d = true
  · rw [if_pos h, if_pos h]
    have h' := (rateOk_iff q t d).1 h
    have hb : 0 ≤ brought b 0 400000 ∧ brought b 0 400000 ≤ 400000 := by unfold brought; repeat' split
                                                                         all_goals omega
    rw [w64 (e := d + brought b 0 400000) (by omega) (by omega), w64 (e := d + brought b 0 400000 - t) (by omega) (by omega), w64 (e := -8 * t) (by omega) (by omega), w64 (e := 8 * t) (by omega) (by omega), w64 (e := -t) (by omega) (by omega), w64 (e := q + 1) (by omega) (by omega), w64 (e := q - 1) (by omega) (by omega)]
    generalize brought (d + brought b 0 400000 - t) (-8 * t) (8 * t) = e
    split
    · rw [if_neg (show ¬ e < -t by omega)]
    · split <;> rfl
  · rw [if_neg h, if_neg h]
theorem spec_RateNext_ev (q t d b : Int) : Ev (fun k => spec_RateNext.f k q t d b) (rateNext q t d b) := Ev.succ fun k => spec_RateNext_eq k q t d b
-- RateRun value
def rateRun (s : Int × Int × Int) (l : List Int) : Int × Int × Int := if l.length > 1000 then s else l.foldl (fun s b => rateNext s.1 s.2.1 s.2.2 b) s
-- lists: rd and drop
theorem rd_drop (l : List Int) (i : Nat) (h : i < l.length) : l.drop i = rd l i :: l.drop (i + 1) := by
  rw [List.drop_eq_getElem_cons h]
  congr 1
  simp [rd, List.getD_eq_getElem?_getD, List.getElem?_eq_getElem h]
theorem w64_succ {i n : Nat} (h : i < n) (hn : n ≤ 9223372036854775807) : wrap64 ((i : Int) + 1) = ((i + 1 : Nat) : Int) := by
  rw [w64 (by omega) (by omega)]; omega
-- RateRun impl
theorem impl_RateRun_loop (l : List Int) (hl : l.length ≤ 1000) : ∀ (d i : Nat) (s : Int × Int × Int) (k : Nat), l.length - i = d → i ≤ l.length → d < k →
    impl_RateRun.l0 k l (l.length : Int) i s.1 s.2.1 s.2.2 = some ((l.drop i).foldl (fun s b => rateNext s.1 s.2.1 s.2.2 b) s) := by
  intro d
  induction d with
  | zero =>
    intro i s k hd hi hk
    obtain ⟨k, rfl⟩ : ∃ m, k = m + 1 := ⟨k - 1, by omega⟩
    simp only [impl_RateRun.l0]
    rw [if_neg (by omega), List.drop_eq_nil_of_le (by omega)]; rfl
  | succ d ih =>
    intro i s k hd hi hk
    obtain ⟨k, rfl⟩ : ∃ m, k = m + 1 := ⟨k - 1, by omega⟩
    simp only [impl_RateRun.l0]
    rw [if_pos (by omega), if_pos (by omega), if_pos (by omega), impl_RateNext_eq]
    simp only [Option.bind_some]
    rw [w64_succ (n := l.length) (by omega) (by omega), ih (i + 1) _ k (by omega) (by omega) (by omega), rd_drop l i (by omega), List.foldl_cons]
theorem impl_RateRun_ev (q t d : Int) (l : List Int) : Ev (fun k => impl_RateRun.f k q t d l) (rateRun (q, t, d) l) := by
  unfold impl_RateRun.f rateRun
  by_cases h : l.length > 1000
  · rw [if_pos h]; simp only [if_pos (show (l.length : Int) > 1000 by omega)]; exact Ev.some _
  · rw [if_neg h]; simp only [if_neg (show ¬ (l.length : Int) > 1000 by omega)]
    exact ⟨l.length + 1, fun k hk => impl_RateRun_loop l (by omega) l.length 0 (q, t, d) k (by omega) (by omega) (by omega)⟩
-- RateRun spec
theorem spec_RateRun_loop (l : List Int) (hl : l.length ≤ 1000) : ∀ (d i : Nat) (s : Int × Int × Int) (k : Nat), l.length - i = d → i ≤ l.length → d + 1 < k →
    spec_RateRun.l0 k l i s.1 s.2.1 s.2.2 = some ((l.drop i).foldl (fun s b => rateNext s.1 s.2.1 s.2.2 b) s) := by
  intro d
  induction d with
  | zero =>
    intro i s k hd hi hk
    obtain ⟨k, rfl⟩ : ∃ m, k = m + 1 := ⟨k - 1, by omega⟩
    simp only [spec_RateRun.l0]
    rw [if_neg (by omega), List.drop_eq_nil_of_le (by omega)]; rfl
  | succ d ih =>
    intro i s k hd hi hk
    obtain ⟨k, rfl⟩ : ∃ m, k = m + 1 := ⟨k - 1, by omega⟩
    simp only [spec_RateRun.l0]
    rw [if_pos (by omega), if_pos (by omega)]
    have e : spec_RateNext.f k s.1 s.2.1 s.2.2 (rd l i) = some (rateNext s.1 s.2.1 s.2.2 (rd l i)) := by
      obtain ⟨j, rfl⟩ : ∃ m, k = m + 1 := ⟨k - 1, by omega⟩
      exact spec_RateNext_eq j _ _ _ _
    rw [e]
    simp only [Option.bind_some]
    rw [w64_succ (n := l.length) (by omega) (by omega), ih (i + 1) _ k (by omega) (by omega) (by omega), rd_drop l i (by omega), List.foldl_cons]
theorem spec_RateRun_ev (q t d : Int) (l : List Int) : Ev (fun k => spec_RateRun.f k q t d l) (rateRun (q, t, d) l) := by
  unfold spec_RateRun.f rateRun
  by_cases h : l.length > 1000
  · rw [if_pos h]; simp only [if_pos (show (l.length : Int) > 1000 by omega)]; exact Ev.some _
  · rw [if_neg h]; simp only [if_neg (show ¬ (l.length : Int) > 1000 by omega)]
    exact ⟨l.length + 2, fun k hk => spec_RateRun_loop l (by omega) l.length 0 (q, t, d) k (by omega) (by omega) (by omega)⟩
-- toIntS
theorem laws_toIntS_loop (l : List Int) (hl : l.length ≤ 9223372036854775806) : ∀ (d i : Nat) (o : List Int) (k : Nat), l.length - i = d → i ≤ l.length → o.length = l.length → d < k →
    laws_toIntS.l0 k l o i = some (o.take i ++ l.drop i) := by
  intro d
  induction d with
  | zero =>
    intro i o k hd hi ho hk
    obtain ⟨k, rfl⟩ : ∃ m, k = m + 1 := ⟨k - 1, by omega⟩
    simp only [laws_toIntS.l0]
    rw [if_neg (by omega), List.drop_eq_nil_of_le (by omega), List.take_of_length_le (by omega), List.append_nil]
  | succ d ih =>
    intro i o k hd hi ho hk
    obtain ⟨k, rfl⟩ : ∃ m, k = m + 1 := ⟨k - 1, by omega⟩
    simp only [laws_toIntS.l0]
    rw [if_pos (by omega), if_pos (by omega), if_pos (by omega), w64_succ (n := l.length) (by omega) (by omega), ih (i + 1) _ k (by omega) (by omega) (by simpa using ho) (by omega), rd_drop l i (by omega)]
    congr 1
    rw [show ((i : Int)).toNat = i from by omega, List.take_succ_eq_append_getElem (by simp; omega)]
    simp [List.take_set_of_le]
theorem laws_toIntS_ev (l : List Int) (hl : l.length ≤ 35184372088832) : Ev (fun k => laws_toIntS.f k l) l := by
  refine ⟨l.length + 1, fun k hk => ?_⟩
  show laws_toIntS.f k l = some l
  unfold laws_toIntS.f
  rw [if_pos (by omega), if_pos (by omega)]
  have := laws_toIntS_loop l (by omega) l.length 0 (List.replicate ((l.length : Int) : Int).toNat 0) k (by omega) (by omega) (by simp) (by omega)
  simpa using this
-- eqIntS
theorem laws_eqIntS_loop (l m : List Int) (hl : l.length ≤ 9223372036854775806) (hm : m.length = l.length) : ∀ (d i : Nat) (k : Nat), l.length - i = d → i ≤ l.length → d < k →
    laws_eqIntS.l0 k l m i = some (decide (l.drop i = m.drop i)) := by
  intro d
  induction d with
  | zero =>
    intro i k hd hi hk
    obtain ⟨k, rfl⟩ : ∃ m, k = m + 1 := ⟨k - 1, by omega⟩
    simp only [laws_eqIntS.l0]
    rw [if_neg (by omega), List.drop_eq_nil_of_le (by omega), List.drop_eq_nil_of_le (by omega)]; rfl
  | succ d ih =>
    intro i k hd hi hk
    obtain ⟨k, rfl⟩ : ∃ m, k = m + 1 := ⟨k - 1, by omega⟩
    simp only [laws_eqIntS.l0]
    rw [if_pos (by omega), if_pos (by omega), if_pos (by omega), w64_succ (n := l.length) (by omega) (by omega), ih (i + 1) k (by omega) (by omega) (by omega), rd_drop l i (by omega), rd_drop m i (by omega)]
    by_cases h : rd l i = rd m i
    · rw [if_pos h, h]; simp
    · rw [if_neg h]; simp [h]
theorem laws_eqIntS_ev (l m : List Int) (hl : l.length ≤ 9223372036854775806) : Ev (fun k => laws_eqIntS.f k l m) (decide (l = m)) := by
  unfold laws_eqIntS.f
  by_cases h : l.length = m.length
  · simp only [if_pos (show (l.length : Int) = m.length by omega)]
    exact ⟨l.length + 1, fun k hk => by simpa using laws_eqIntS_loop l m hl h.symm l.length 0 k (by omega) (by omega) (by omega)⟩
  · simp only [if_neg (show ¬ (l.length : Int) = m.length by omega)]
    refine Ev.const ?_
    congr 1; symm; rw [decide_eq_false_iff_not]; rintro rfl; exact h rfl
-- eqRate
theorem laws_eqRate_eq (a b c x y z : Int) : laws_eqRate.f a b c x y z = some (decide ((a, b, c) = (x, y, z))) := by
  unfold laws_eqRate.f
  simp only [Prod.mk.injEq]
  repeat' split
  all_goals simp_all
-- LAW FnExactRateRun
theorem FnExactRateRun (a0_0 a0_1 a0_2 : Int) (l1 : List Int) : ∃ k, laws_FnExactRateRun.f k a0_0 a0_1 a0_2 l1 = some true := by
  unfold laws_FnExactRateRun.f
  by_cases h : (l1.length : Int) > 1048576
  · exact ⟨0, by rw [if_pos h]⟩
  · obtain ⟨k1, h1⟩ := laws_toIntS_ev l1 (by omega)
    obtain ⟨k2, h2⟩ := spec_RateRun_ev a0_0 a0_1 a0_2 l1
    obtain ⟨k3, h3⟩ := impl_RateRun_ev a0_0 a0_1 a0_2 l1
    obtain ⟨k4, h4⟩ := laws_eqIntS_ev l1 l1 (by omega)
    refine ⟨k1 + k2 + k3 + k4, ?_⟩
    rw [if_neg h]
    simp [laws_toRate.f, h1 (k1 + k2 + k3 + k4) (by omega), h2 (k1 + k2 + k3 + k4) (by omega), h3 (k1 + k2 + k3 + k4) (by omega), h4 (k1 + k2 + k3 + k4) (by omega), laws_eqRate_eq]

end Go.Proofs.Ytgknomboljhhnaa.Pure
