/- The pure statement of the law FnExactPartOk: over numbers and lists alone, the printed function answers true. Conditions: none beyond the sizes of what a machine holds. -/
import Derived.Test.YtlfbcmhjopichaaQFnExactPartOkx10
import Derived.Laws.BitsLemmas
namespace Go.Proofs.Ytlfbcmhjopichaa.Pure
open Go.RowKit Go.Proofs.Ytlfbcmhjopichaa.QFnExactPartOk Go.Proofs.YtlfbcmhjopichaaW.PrintWords Go.Proofs.YtlfbcmhjopichaaW.PrintLast Go.Proofs.YtlfbcmhjopichaaW.PrintMore
set_option linter.unusedVariables false
set_option linter.unusedSimpArgs false

-- base: whole numbers
theorem wf64 {n : Int} (h : (Lit.int .i64 n).wf = true) : -9223372036854775808 ≤ n ∧ n ≤ 9223372036854775807 := by
  simp [Lit.wf, IntKind.min, IntKind.max, IntKind.signed, IntKind.bits] at h
  omega
theorem w64 {e : Int} (h1 : -9223372036854775808 ≤ e) (h2 : e ≤ 9223372036854775807) : wrap64 e = e := by unfold wrap64; omega
theorem tmod_pos {a b : Int} (h : 0 ≤ a) : Int.tmod a b = a % b := Int.tmod_eq_emod_of_nonneg h
theorem tdiv_pos {a b : Int} (h : 0 ≤ a) : Int.tdiv a b = a / b := Int.tdiv_eq_ediv_of_nonneg h
theorem w64_wf (e : Int) : -9223372036854775808 ≤ wrap64 e ∧ wrap64 e ≤ 9223372036854775807 := by unfold wrap64; omega
-- base: rounds
theorem Ev.mk_ {α : Type} {g : Nat → Option α} {r : α} (K : Nat) (h : ∀ k, K ≤ k → g k = some r) : Ev g r := ⟨K, h⟩
theorem Ev.succ {α : Type} {g : Nat → Option α} {r : α} (h : ∀ k, g (k + 1) = some r) : Ev g r := ⟨1, fun k hk => by obtain ⟨m, rfl⟩ : ∃ m, k = m + 1 := ⟨k - 1, by omega⟩; exact h m⟩
theorem Ev.some {α : Type} (r : α) : Ev (fun _ => Option.some r) r := ⟨0, fun _ _ => rfl⟩
theorem Ev.const {α : Type} {o : Option α} {r : α} (h : o = Option.some r) : Ev (fun _ => o) r := ⟨0, fun _ _ => h⟩
theorem Ev.ite {α : Type} {c : Prop} [Decidable c] {g f : Nat → Option α} {r : α} (h1 : c → Ev g r) (h2 : ¬ c → Ev f r) : Ev (fun k => if c then g k else f k) r := by
  by_cases h : c
  · simpa only [if_pos h] using h1 h
  · simpa only [if_neg h] using h2 h
theorem Ev.pos {α : Type} {c : Prop} [Decidable c] {g f : Nat → Option α} {r : α} (hc : c) (h : Ev g r) : Ev (fun k => if c then g k else f k) r := by
  simpa only [if_pos hc] using h
theorem Ev.neg {α : Type} {c : Prop} [Decidable c] {g f : Nat → Option α} {r : α} (hc : ¬ c) (h : Ev f r) : Ev (fun k => if c then g k else f k) r := by
  simpa only [if_neg hc] using h
theorem Ev.bindc {α β : Type} {o : Option α} {f : Nat → α → Option β} {a : α} {r : β} (h : o = Option.some a) (k : Ev (fun n => f n a) r) : Ev (fun n => o.bind (f n)) r := by
  subst h; exact k
-- within
theorem impl_within_eq (a b c : Int) : impl_within.f a b c = some (decide (b ≤ a ∧ a ≤ c)) := by
  unfold impl_within.f
  by_cases h : a ≥ b
  · rw [if_pos h]; simp [show b ≤ a from h]
  · rw [if_neg h]; simp; omega
-- l01In
theorem spec_l01In_eq (a b c : Int) : spec_l01In.f a b c = some (decide (b ≤ a ∧ a ≤ c)) := by
  unfold spec_l01In.f
  by_cases h : a ≥ b
  · rw [if_pos h]; simp [show b ≤ a from h]
  · rw [if_neg h]; simp; omega
-- lists: rd and drop
theorem rd_drop (l : List Int) (i : Nat) (h : i < l.length) : l.drop i = rd l i :: l.drop (i + 1) := by
  rw [List.drop_eq_getElem_cons h]
  congr 1
  simp [rd, List.getD_eq_getElem?_getD, List.getElem?_eq_getElem h]
theorem w64_succ {i n : Nat} (h : i < n) (hn : n ≤ 9223372036854775807) : wrap64 ((i : Int) + 1) = ((i + 1 : Nat) : Int) := by
  rw [w64 (by omega) (by omega)]; omega
-- downwards
theorem down_to {P : Nat → Prop} (n : Nat) (h0 : P n) (hs : ∀ i, i < n → P (i + 1) → P i) : ∀ i, i ≤ n → P i := by
  have key : ∀ d i, n - i = d → i ≤ n → P i := by
    intro d
    induction d with
    | zero => intro i hd hi; obtain rfl : i = n := by omega
              exact h0
    | succ d ih => intro i hd hi; exact hs i (by omega) (ih (i + 1) (by omega) (by omega))
  exact fun i hi => key (n - i) i rfl hi
-- a proposition as a Bool
noncomputable def pb (p : Prop) : Bool := @decide p (Classical.propDecidable p)
theorem pb_true {p : Prop} (h : p) : pb p = true := by unfold pb; exact @decide_eq_true p (Classical.propDecidable p) h
theorem pb_false {p : Prop} (h : ¬ p) : pb p = false := by unfold pb; exact @decide_eq_false p (Classical.propDecidable p) h
theorem pb_iff {p : Prop} : pb p = true ↔ p := ⟨fun h => Classical.byContradiction fun hn => by rw [pb_false hn] at h; exact absurd h (by decide), pb_true⟩
-- ParOk
def parOk (q : Int) (l e : Bool) : Bool := decide (0 ≤ q ∧ q ≤ 40) && !(l && e)
-- ParOk impl
theorem impl_ParOk_eq (q : Int) (l e c : Bool) : impl_ParOk.f q l e c = some (parOk q l e) := by
  unfold impl_ParOk.f parOk
  simp only [impl_within_eq, Option.bind_some]
  cases decide (0 ≤ q ∧ q ≤ 40) <;> cases l <;> cases e <;> rfl
-- ParOk spec
theorem spec_ParOk_eq (q : Int) (l e c : Bool) : spec_ParOk.f q l e c = some (parOk q l e) := by
  unfold spec_ParOk.f parOk
  simp only [spec_l01In_eq, Option.bind_some]
  cases decide (0 ≤ q ∧ q ≤ 40) <;> cases l <;> cases e <;> rfl
-- rows of signs
def RowP (d : ByteArray) : Prop := d.size ≤ 400000 ∧ ∀ i : Nat, i < d.size → bt d i = 48 ∨ bt d i = 49
noncomputable def rowB (d : ByteArray) : Bool := pb (RowP d)
theorem spec_RowOk_ev (d : ByteArray) (hd : d.size ≤ 9223372036854775806) : Ev (fun k => spec_RowOk.f k d) (rowB d) := by
  unfold spec_RowOk.f spec_l02Row.f
  by_cases h0 : (d.size : Int) ≤ 400000
  · simp only [if_pos h0]
    have key : ∀ i, i ≤ d.size → (∀ j : Nat, j < i → bt d j = 48 ∨ bt d j = 49) → Ev (fun k => spec_l02Row.l0 k d i) (rowB d) := by
      refine down_to _ ?_ ?_
      · intro h
        rw [rowB, pb_true ⟨by omega, h⟩]
        exact Ev.step (f := fun _ => some true) (fun k => by rw [spec_l02Row.l0, if_neg (by omega)]) (Ev.some _)
      · intro i hi ih h
        have go : bt d i = 48 ∨ bt d i = 49 → Ev (fun k => spec_l02Row.l0 k d ((i + 1 : Nat) : Int)) (rowB d) := fun hb => ih fun j hj => by
          rcases Nat.lt_or_ge j i with h2 | h2
          · exact h j h2
          · obtain rfl : j = i := by omega
            exact hb
        refine Ev.step (fun k => by rw [spec_l02Row.l0, if_pos (by omega), if_pos (by omega), w64_succ hi (by omega)]) ?_
        refine Ev.ite (fun h1 => go (.inl h1)) (fun h1 => Ev.ite (fun h2 => go (.inr h2)) (fun h2 => ?_))
        rw [rowB, pb_false (fun hp => (hp.2 i hi).elim h1 h2)]
        exact Ev.some _
    exact Ev.bind (key 0 (by omega) (fun j hj => absurd hj (by omega))) (Ev.some _)
  · simp only [if_neg h0]
    rw [rowB, pb_false (fun hp => h0 (by have := hp.1; omega))]
    exact Ev.some _
theorem impl_RowOk_ev (d : ByteArray) (hd : d.size ≤ 9223372036854775806) : Ev (fun k => impl_RowOk.f k d) (rowB d) := by
  unfold impl_RowOk.f
  by_cases h0 : (d.size : Int) > 400000
  · simp only [if_pos h0]
    rw [rowB, pb_false (fun hp => by have := hp.1; omega)]
    exact Ev.some _
  · simp only [if_neg h0]
    have key : ∀ i, i ≤ d.size → (∀ j : Nat, j < i → bt d j = 48 ∨ bt d j = 49) → Ev (fun k => impl_RowOk.l0 k d i) (rowB d) := by
      refine down_to _ ?_ ?_
      · intro h
        rw [rowB, pb_true ⟨by omega, h⟩]
        exact Ev.step (f := fun _ => some true) (fun k => by rw [impl_RowOk.l0, if_neg (by omega)]) (Ev.some _)
      · intro i hi ih h
        have go : bt d i = 48 ∨ bt d i = 49 → Ev (fun k => impl_RowOk.l0 k d ((i + 1 : Nat) : Int)) (rowB d) := fun hb => ih fun j hj => by
          rcases Nat.lt_or_ge j i with h2 | h2
          · exact h j h2
          · obtain rfl : j = i := by omega
            exact hb
        refine Ev.step (fun k => by rw [impl_RowOk.l0, if_pos (by omega), if_pos (by omega), w64_succ hi (by omega)]) ?_
        refine Ev.ite (fun h1 => go (.inl h1)) (fun h1 => Ev.ite (fun h2 => go (.inr h2)) (fun h2 => ?_))
        rw [rowB, pb_false (fun hp => (hp.2 i hi).elim h1 h2)]
        exact Ev.some _
    exact key 0 (by omega) (fun j hj => absurd hj (by omega))
-- numbers in rows
def valTo (d : ByteArray) (p : Nat) : Nat → Int
  | 0 => 0
  | n + 1 => 2 * valTo d p n + (bt d ((p + n : Nat) : Int) - 48)
theorem valTo_range {d : ByteArray} (hr : RowP d) (p : Nat) : ∀ n : Nat, p + n ≤ d.size → 0 ≤ valTo d p n ∧ valTo d p n < 2 ^ n
  | 0, _ => by simp [valTo]
  | n + 1, h => by
    have ih := valTo_range hr p n (by omega)
    have b := hr.2 (p + n) (by omega)
    simp only [valTo]
    have e : (2 : Int) ^ (n + 1) = 2 * 2 ^ n := by rw [Int.pow_succ]; omega
    rw [e]
    omega
theorem valTo_zeros (d : ByteArray) (p z : Nat) (hz : ∀ j : Nat, j < z → bt d ((p + j : Nat) : Int) = 48) : ∀ m : Nat, valTo d p (z + m) = valTo d (p + z) m
  | 0 => by
    have : ∀ n : Nat, n ≤ z → valTo d p n = 0 := by
      intro n
      induction n with
      | zero => intro _; rfl
      | succ n ih => intro h; simp only [valTo]; rw [ih (by omega), hz n (by omega)]; rfl
    simpa [valTo] using this z (Nat.le_refl _)
  | m + 1 => by
    have ih := valTo_zeros d p z hz m
    show 2 * valTo d p (z + m) + (bt d ((p + (z + m) : Nat) : Int) - 48) = 2 * valTo d (p + z) m + (bt d ((p + z + m : Nat) : Int) - 48)
    rw [ih, Nat.add_assoc]
theorem valTo_one {d : ByteArray} (hr : RowP d) (p : Nat) (h1 : bt d (p : Int) = 49) : ∀ m : Nat, p + m + 1 ≤ d.size → 2 ^ m ≤ valTo d p (m + 1)
  | 0, _ => by simp only [valTo, Nat.add_zero]; rw [h1]; decide
  | m + 1, h => by
    have ih := valTo_one hr p h1 m (by omega)
    have b := hr.2 (p + (m + 1)) (by omega)
    rw [valTo]
    have e : (2 : Int) ^ (m + 1) = 2 * 2 ^ m := by rw [Int.pow_succ]; omega
    rw [e]
    omega
theorem pow_le_60 {n : Nat} (h : n ≤ 60) : (1 : Int) ≤ 2 ^ n ∧ (2 : Int) ^ n ≤ 1152921504606846976 := by
  have key : ∀ i : Fin 61, (1 : Int) ≤ 2 ^ i.val ∧ (2 : Int) ^ i.val ≤ 1152921504606846976 := by decide +kernel
  exact key ⟨n, by omega⟩
theorem or_one {x b : Int} (h0 : 0 ≤ x) (h1 : x ≤ 1152921504606846976) (hb : b = 0 ∨ b = 1) : Go.bits .or .i64 (x * 2) b = 2 * x + b := by
  have hk : ∀ n : Int, 0 ≤ n → n < 2 ^ 62 → IntKind.i64.wrap n = n := fun n a c => by rw [IntKind.wrap_i64]; omega
  rw [bits_join .i64 62 (by decide) hk 1 (x * 2) b (by omega) (by omega) (by omega) (by omega) (by omega) (by omega)]
  omega
theorem spec_l02Read_ev {d : ByteArray} (hr : RowP d) (p w : Nat) (hw : w ≤ 60) (h : p + w ≤ d.size) : Ev (fun k => spec_l02Read.f k d p w) (valTo d p w, ((p + w : Nat) : Int), true) := by
  have hs := hr.1
  unfold spec_l02Read.f
  rw [w64 (by omega) (by omega)]
  refine Ev.neg (by omega) ?_
  have key : ∀ j, j ≤ w → Ev (fun k => spec_l02Read.l0 k d p w (valTo d p j) ((p + j : Nat) : Int)) (valTo d p w, ((p + w : Nat) : Int), true) := by
    refine down_to _ ?_ ?_
    · refine Ev.step (f := fun _ => some (valTo d p w, ((p + w : Nat) : Int), true)) (fun k => by rw [spec_l02Read.l0, w64 (e := (p : Int) + w) (by omega) (by omega), if_neg (by omega)]; simp) (Ev.some _)
    · intro j hj ih
      have v := valTo_range hr p j (by omega)
      have q := pow_le_60 (n := j) (by omega)
      have b := hr.2 (p + j) (by omega)
      refine Ev.step (fun k => by rw [spec_l02Read.l0, w64 (e := (p : Int) + w) (by omega) (by omega), if_pos (by omega), if_pos (by omega), if_pos (by omega), w64 (e := 2 * valTo d p j) (by omega) (by omega), w64 (e := bt d ((p + j : Nat) : Int)) (by omega) (by omega), w64 (e := 2 * valTo d p j + bt d ((p + j : Nat) : Int)) (by omega) (by omega), w64 (e := 2 * valTo d p j + bt d ((p + j : Nat) : Int) - 48) (by omega) (by omega), w64 (e := ((p + j : Nat) : Int) + 1) (by omega) (by omega)]) ?_
      have e : 2 * valTo d p j + bt d ((p + j : Nat) : Int) - 48 = valTo d p (j + 1) := by simp only [valTo]; omega
      rw [e, show ((p + j : Nat) : Int) + 1 = ((p + (j + 1) : Nat) : Int) by omega]
      exact ih
  simpa [valTo] using key 0 (by omega)
theorem spec_l02Read_no {d : ByteArray} (hs : d.size ≤ 400000) (p w : Nat) (hp : p ≤ d.size) (h : ¬ p + w ≤ d.size) (hw : w ≤ 60) : Ev (fun k => spec_l02Read.f k d p w) (0, 0, false) := by
  unfold spec_l02Read.f
  rw [w64 (by omega) (by omega)]
  exact Ev.pos (by omega) (Ev.some _)
theorem impl_fix_ev {d : ByteArray} (hr : RowP d) (p w : Nat) (hw : w ≤ 60) (h : p + w ≤ d.size) : Ev (fun k => impl_scan_fix.f k d p false w) (valTo d p w, d, ((p + w : Nat) : Int), false) := by
  have hs := hr.1
  unfold impl_scan_fix.f
  simp only [Bool.false_eq_true, if_false]
  rw [w64 (by omega) (by omega), decide_eq_false (by omega)]
  refine Ev.step (fun k => by rw [impl_scan_fix.j0, if_neg (by decide)]) ?_
  have key : ∀ j, j ≤ w → Ev (fun k => impl_scan_fix.l0 k w (valTo d p j) j d p false) (valTo d p w, d, ((p + w : Nat) : Int), false) := by
    refine down_to _ ?_ ?_
    · refine Ev.step (f := fun _ => some (valTo d p w, d, ((p + w : Nat) : Int), false)) (fun k => by rw [impl_scan_fix.l0, if_neg (by omega), w64 (e := (p : Int) + w) (by omega) (by omega)]; simp) (Ev.some _)
    · intro j hj ih
      have v := valTo_range hr p j (by omega)
      have q := pow_le_60 (n := j) (by omega)
      have b := hr.2 (p + j) (by omega)
      have ec : ((p : Int) + j) = ((p + j : Nat) : Int) := by omega
      refine Ev.step (fun k => by rw [impl_scan_fix.l0, if_pos (by omega), w64 (e := (p : Int) + j) (by omega) (by omega), ec, if_pos (by omega), if_pos (by omega), w64 (e := valTo d p j * 2) (by omega) (by omega), w64_succ hj (by omega)]) ?_
      have e : Go.bits .or .i64 (valTo d p j * 2) ((bt d ((p + j : Nat) : Int) - 48) % 256) = valTo d p (j + 1) := by
        rw [or_one v.1 (by omega) (by omega)]
        simp only [valTo]
        omega
      rw [e]
      exact ih
  simpa [valTo] using key 0 (by omega)
theorem impl_fix_no {d : ByteArray} (hs : d.size ≤ 400000) (p w : Nat) (hp : p ≤ d.size) (h : ¬ p + w ≤ d.size) (hw : w ≤ 400000) : Ev (fun k => impl_scan_fix.f k d p false w) (0, d, (p : Int), true) := by
  unfold impl_scan_fix.f
  simp only [Bool.false_eq_true, if_false]
  rw [w64 (by omega) (by omega), decide_eq_true (by omega)]
  exact Ev.step (fun k => by rw [impl_scan_fix.j0, if_pos rfl]) (Ev.some _)
theorem impl_fix_bad (d : ByteArray) (p w : Int) : Ev (fun k => impl_scan_fix.f k d p true w) (0, d, p, true) := by
  unfold impl_scan_fix.f
  simp only [if_true]
  exact Ev.step (fun k => by rw [impl_scan_fix.j0, if_pos rfl]) (Ev.some _)
-- counted numbers
def zcF (d : ByteArray) : Nat → Nat → Nat
  | 0, _ => 0
  | f + 1, p => if bt d (p : Int) = 48 then zcF d f (p + 1) + 1 else 0
def zc (d : ByteArray) (p : Nat) : Nat := zcF d (d.size - p) p
theorem zcF_spec (d : ByteArray) : ∀ f p : Nat, p + f = d.size → p + zcF d f p ≤ d.size ∧ (∀ j : Nat, j < zcF d f p → bt d ((p + j : Nat) : Int) = 48) ∧ (p + zcF d f p < d.size → bt d ((p + zcF d f p : Nat) : Int) ≠ 48)
  | 0, p, h => ⟨by simp [zcF]; omega, fun j hj => by simp [zcF] at hj, fun hh => by simp [zcF] at hh; omega⟩
  | f + 1, p, h => by
    by_cases hb : bt d (p : Int) = 48
    · obtain ⟨i1, i2, i3⟩ := zcF_spec d f (p + 1) (by omega)
      simp only [zcF, if_pos hb]
      refine ⟨by omega, fun j hj => ?_, fun hh => ?_⟩
      · rcases Nat.eq_zero_or_pos j with rfl | hj0
        · simpa using hb
        · have := i2 (j - 1) (by omega)
          rwa [show p + 1 + (j - 1) = p + j by omega] at this
      · have := i3 (by omega)
        rwa [show p + 1 + zcF d f (p + 1) = p + (zcF d f (p + 1) + 1) by omega] at this
    · simp only [zcF, if_neg hb]
      exact ⟨by omega, fun j hj => absurd hj (by omega), fun _ => by simpa using hb⟩
theorem zc_spec (d : ByteArray) (p : Nat) (hp : p ≤ d.size) : p + zc d p ≤ d.size ∧ (∀ j : Nat, j < zc d p → bt d ((p + j : Nat) : Int) = 48) ∧ (p + zc d p < d.size → bt d ((p + zc d p : Nat) : Int) ≠ 48) := zcF_spec d (d.size - p) p (by omega)
def ueR (d : ByteArray) (p : Nat) : Option (Int × Nat) := if zc d p ≤ 20 ∧ p + 2 * zc d p + 1 ≤ d.size ∧ valTo d (p + zc d p) (zc d p + 1) ≤ 1000001 then some (valTo d (p + zc d p) (zc d p + 1) - 1, p + 2 * zc d p + 1) else none
def outS {α : Type} (z : α) (o : Option (α × Nat)) : α × Int × Bool := match o with | some (v, q) => (v, (q : Int), true) | none => (z, 0, false)
theorem ueR_some {d : ByteArray} (hr : RowP d) {p q : Nat} {v : Int} (hp : p ≤ d.size) (h : ueR d p = some (v, q)) : 0 ≤ v ∧ v ≤ 1000000 ∧ p < q ∧ q ≤ d.size := by
  unfold ueR at h
  split at h
  · rename_i hc
    simp only [Option.some.injEq, Prod.mk.injEq] at h
    obtain ⟨i1, i2, i3⟩ := zc_spec d p hp
    have b := hr.2 (p + zc d p) (by omega)
    have n1 := i3 (by omega)
    have h1 := valTo_one hr (p + zc d p) (by omega) (zc d p) (by omega)
    have h2 := pow_le_60 (n := zc d p) (by omega)
    omega
  · exact absurd h (by simp)
theorem shl_21 {i : Nat} (h : i ≤ 21) : IntKind.u64.wrap (i : Int) = (i : Int) ∧ shl .i64 1 (i : Int) = 2 ^ i := by
  have key : ∀ i : Fin 22, IntKind.u64.wrap (i.val : Int) = (i.val : Int) ∧ shl .i64 1 (i.val : Int) = 2 ^ i.val := by decide +kernel
  exact key ⟨i, by omega⟩
theorem spec_ue_fin {d : ByteArray} (hr : RowP d) (p s : Nat) (hp : p ≤ d.size) (hs : s = min (zc d p) 21) : Ev (fun k => (spec_l02Read.f k d ((p : Int) + s) ((s : Int) + 1)).bind fun b => (if b.2.2 = true then (if 0 ≤ (IntKind.u64.wrap (s : Int)) then (if b.1 < (shl .i64 1 (IntKind.u64.wrap (s : Int))) then (some ((0 : Int), (0 : Int), false)) else (if (wrap64 (b.1 - 1)) > 1000000 then (some (0, 0, false)) else (some (wrap64 (b.1 - 1), b.2.1, true)))) else (none)) else (some (0, 0, false)))) (outS 0 (ueR d p)) := by
  have hz := hr.1
  obtain ⟨i1, i2, i3⟩ := zc_spec d p hp
  rw [show (p : Int) + s = ((p + s : Nat) : Int) by omega, show (s : Int) + 1 = ((s + 1 : Nat) : Int) by omega]
  have hsh := shl_21 (i := s) (by omega)
  by_cases hf : p + s + (s + 1) ≤ d.size
  · refine Ev.bind (spec_l02Read_ev hr (p + s) (s + 1) (by omega) (by omega)) ?_
    have v := valTo_range hr (p + s) (s + 1) (by omega)
    have q := pow_le_60 (n := s + 1) (by omega)
    simp only [if_true, hsh.1, hsh.2, if_pos (show (0 : Int) ≤ (s : Int) by omega)]
    rw [w64 (by omega) (by omega)]
    have b := hr.2 (p + s) (by omega)
    by_cases hz20 : zc d p ≤ 20
    · have es : s = zc d p := by omega
      subst es
      have n1 := i3 (by omega)
      have h1 := valTo_one hr (p + zc d p) (by omega) (zc d p) (by omega)
      simp only [if_neg (show ¬ valTo d (p + zc d p) (zc d p + 1) < 2 ^ zc d p by omega)]
      unfold ueR
      by_cases hm : valTo d (p + zc d p) (zc d p + 1) ≤ 1000001
      · simp only [if_neg (show ¬ valTo d (p + zc d p) (zc d p + 1) - 1 > 1000000 by omega)]
        rw [if_pos ⟨hz20, by omega, hm⟩]
        have : ((p + zc d p + (zc d p + 1) : Nat) : Int) = ((p + 2 * zc d p + 1 : Nat) : Int) := by omega
        rw [this]
        exact Ev.some _
      · simp only [if_pos (show valTo d (p + zc d p) (zc d p + 1) - 1 > 1000000 by omega)]
        rw [if_neg (fun hh => hm hh.2.2)]
        exact Ev.some _
    · have es : s = 21 := by omega
      subst es
      have eu : ueR d p = none := by unfold ueR; rw [if_neg (fun hh => hz20 hh.1)]
      rw [eu]
      rcases b with b | b
      · have e0 := valTo_zeros d (p + 21) 1 (fun j hj => by rw [show p + 21 + j = p + 21 by omega]; exact b) 21
        have v2 := valTo_range hr (p + 21 + 1) 21 (by omega)
        rw [show 1 + 21 = 21 + 1 by omega] at e0
        rw [e0]
        simp only [if_pos v2.2]
        exact Ev.some _
      · have h1 := valTo_one hr (p + 21) b 21 (by omega)
        have e21 : (2 : Int) ^ 21 = 2097152 := by decide
        rw [e21] at h1
        rw [e21]
        simp only [if_neg (show ¬ valTo d (p + 21) (21 + 1) < 2097152 by omega), if_pos (show valTo d (p + 21) (21 + 1) - 1 > 1000000 by omega)]
        exact Ev.some _
  · refine Ev.bind (spec_l02Read_no hz (p + s) (s + 1) (by omega) (by omega) (by omega)) ?_
    simp only [Bool.false_eq_true, if_false]
    unfold ueR
    rw [if_neg (fun hh => by omega)]
    exact Ev.some _
theorem spec_l03ReadUe_ev {d : ByteArray} (hr : RowP d) (p : Nat) (hp : p ≤ d.size) : Ev (fun k => spec_l03ReadUe.f k d p) (outS 0 (ueR d p)) := by
  have hz := hr.1
  obtain ⟨i1, i2, i3⟩ := zc_spec d p hp
  unfold spec_l03ReadUe.f
  have key : ∀ i, i ≤ min (zc d p) 21 → Ev (fun k => spec_l03ReadUe.l0 k d p i) (outS 0 (ueR d p)) := by
    refine down_to _ ?_ ?_
    · have fin := spec_ue_fin hr p (min (zc d p) 21) hp rfl
      generalize hs : min (zc d p) 21 = s at fin ⊢
      refine Ev.step (fun k => by rw [spec_l03ReadUe.l0, w64 (e := (p : Int) + s) (by omega) (by omega), w64 (e := (s : Int) + 1) (by omega) (by omega)]) ?_
      refine Ev.ite (fun c1 => Ev.pos (by omega) (Ev.ite (fun c2 => Ev.neg (fun c3 => ?_) fin) (fun _ => fin))) (fun _ => fin)
      have : s = zc d p := by omega
      subst this
      exact i3 (by omega) (by rw [show ((p + zc d p : Nat) : Int) = (p : Int) + zc d p by omega]; exact c2)
    · intro i hi ih
      have b := i2 i (by omega)
      refine Ev.step (fun k => by rw [spec_l03ReadUe.l0, w64 (e := (p : Int) + i) (by omega) (by omega), w64 (e := (i : Int) + 1) (by omega) (by omega), if_pos (by omega), if_pos (by omega), if_pos (by rw [show (p : Int) + i = ((p + i : Nat) : Int) by omega]; exact b), if_pos (by omega)]) ?_
      exact ih
  exact key 0 (by omega)
theorem impl_ue_bad (d : ByteArray) (p : Int) : Ev (fun k => impl_scan_ue.f k d p true) (0, d, p, true) := by
  unfold impl_scan_ue.f
  refine Ev.step (fun k => by rw [impl_scan_ue.l0, if_pos rfl]) (Ev.step (fun k => by rw [impl_scan_ue.j1, if_neg (by decide)]) ?_)
  refine Ev.bind (impl_fix_bad d p _) ?_
  simp only [if_true]
  exact Ev.some _
-- counted numbers: end
theorem impl_ue_ev {d : ByteArray} (hr : RowP d) (p : Nat) (hp : p ≤ d.size) : (∀ v q, ueR d p = some (v, q) → Ev (fun k => impl_scan_ue.f k d p false) (v, d, (q : Int), false)) ∧ (ueR d p = none → ∃ q : Int, Ev (fun k => impl_scan_ue.f k d p false) (0, d, q, true)) := by
  have hz := hr.1
  obtain ⟨i1, i2, i3⟩ := zc_spec d p hp
  have key : ∀ res, Ev (fun k => impl_scan_ue.j1 k (zc d p : Nat) d p false) res → ∀ i, i ≤ zc d p → Ev (fun k => impl_scan_ue.l0 k i d p false) res := by
    intro res fin
    refine down_to _ ?_ ?_
    · refine Ev.step (fun k => by rw [impl_scan_ue.l0, if_neg (by decide), w64 (e := (p : Int) + (zc d p : Nat)) (by omega) (by omega)]) ?_
      refine Ev.ite (fun c1 => Ev.pos (by omega) (Ev.neg (fun c2 => ?_) fin)) (fun _ => fin)
      exact i3 (by omega) (by rw [show ((p + zc d p : Nat) : Int) = (p : Int) + (zc d p : Nat) by omega]; exact c2)
    · intro i hi ih
      have b := i2 i hi
      refine Ev.step (fun k => by rw [impl_scan_ue.l0, if_neg (by decide), w64 (e := (p : Int) + i) (by omega) (by omega), w64 (e := (i : Int) + 1) (by omega) (by omega), if_pos (by omega), if_pos (by omega), if_pos (by rw [show (p : Int) + i = ((p + i : Nat) : Int) by omega]; exact b)]) ?_
      exact ih
  have start : ∀ res, Ev (fun k => impl_scan_ue.j1 k (zc d p : Nat) d p false) res → Ev (fun k => impl_scan_ue.f k d p false) res := fun res h => key res h 0 (by omega)
  unfold ueR
  by_cases hz20 : zc d p ≤ 20
  · have ew : wrap64 (wrap64 (2 * (zc d p : Int)) + 1) = ((2 * zc d p + 1 : Nat) : Int) := by rw [w64 (e := 2 * (zc d p : Int)) (by omega) (by omega), w64 (by omega) (by omega)]; omega
    by_cases hf : p + 2 * zc d p + 1 ≤ d.size
    · have e := valTo_zeros d p (zc d p) i2 (zc d p + 1)
      have v := valTo_range hr p (2 * zc d p + 1) (by omega)
      have q := pow_le_60 (n := 2 * zc d p + 1) (by omega)
      have fin : Ev (fun k => impl_scan_ue.j1 k (zc d p : Nat) d p false) (if valTo d (p + zc d p) (zc d p + 1) - 1 > 1000000 then (0, d, ((p + 2 * zc d p + 1 : Nat) : Int), true) else (valTo d (p + zc d p) (zc d p + 1) - 1, d, ((p + 2 * zc d p + 1 : Nat) : Int), false)) := by
        refine Ev.step (fun k => by rw [impl_scan_ue.j1, if_neg (by omega), ew]) ?_
        refine Ev.bind (impl_fix_ev hr p (2 * zc d p + 1) (by omega) (by omega)) ?_
        rw [show 2 * zc d p + 1 = zc d p + (zc d p + 1) by omega] at v q ⊢
        rw [e] at v ⊢
        simp only [Bool.false_eq_true, if_false]
        rw [w64 (by omega) (by omega), show p + (zc d p + (zc d p + 1)) = p + 2 * zc d p + 1 by omega]
        by_cases hm : valTo d (p + zc d p) (zc d p + 1) - 1 > 1000000
        · simp only [if_pos hm]; exact Ev.some _
        · simp only [if_neg hm]; exact Ev.some _
      by_cases hm : valTo d (p + zc d p) (zc d p + 1) ≤ 1000001
      · rw [if_neg (by omega)] at fin
        rw [if_pos ⟨hz20, hf, hm⟩]
        refine ⟨fun v' q' h => ?_, fun h => absurd h (by simp)⟩
        simp only [Option.some.injEq, Prod.mk.injEq] at h
        obtain ⟨rfl, rfl⟩ := h
        exact start _ fin
      · rw [if_pos (by omega)] at fin
        rw [if_neg (fun hh => hm hh.2.2)]
        exact ⟨fun v' q' h => absurd h (by simp), fun _ => ⟨_, start _ fin⟩⟩
    · rw [if_neg (fun hh => hf hh.2.1)]
      refine ⟨fun v' q' h => absurd h (by simp), fun _ => ⟨_, start (0, d, (p : Int), true) ?_⟩⟩
      refine Ev.step (fun k => by rw [impl_scan_ue.j1, if_neg (by omega), ew]) ?_
      refine Ev.bind (impl_fix_no hz p (2 * zc d p + 1) hp (by omega) (by omega)) ?_
      simp only [if_true]
      exact Ev.some _
  · rw [if_neg (fun hh => hz20 hh.1)]
    refine ⟨fun v' q' h => absurd h (by simp), fun _ => ⟨_, start (0, d, (p : Int), true) ?_⟩⟩
    refine Ev.step (fun k => by rw [impl_scan_ue.j1, if_pos (by omega)]) ?_
    refine Ev.bind (impl_fix_bad d p _) ?_
    simp only [if_true]
    exact Ev.some _
-- counted numbers with a sign
def openSe (u : Int) : Int := if u % 2 = 1 then (u + 1) / 2 else -(u / 2)
theorem openSe_range {u : Int} (h0 : 0 ≤ u) (h1 : u ≤ 1000000) : -500000 ≤ openSe u ∧ openSe u ≤ 500000 := by unfold openSe; split <;> omega
theorem spec_OpenSe_eq {u : Int} (h0 : 0 ≤ u) (h1 : u ≤ 1000000) : spec_OpenSe.f u = some (openSe u, true) := by
  unfold spec_OpenSe.f openSe
  simp only [spec_l01In_eq, Option.bind_some, decide_eq_true_eq]
  rw [if_pos ⟨h0, h1⟩, tmod_pos h0, w64 (e := u + 1) (by omega) (by omega), tdiv_pos (by omega), tdiv_pos h0, w64 (e := u / 2) (by omega) (by omega), w64 (e := (u + 1) / 2) (by omega) (by omega), w64 (e := -(u / 2)) (by omega) (by omega)]
  split <;> rfl
theorem impl_OpenSe_eq {u : Int} (h0 : 0 ≤ u) (h1 : u ≤ 1000000) : impl_OpenSe.f u = some (openSe u, true) := by
  unfold impl_OpenSe.f openSe
  simp only [impl_within_eq, Option.bind_some, decide_eq_true_eq]
  rw [if_pos ⟨h0, h1⟩, tmod_pos h0, w64 (e := u + 1) (by omega) (by omega), tdiv_pos (by omega), w64 (e := (u + 1) / 2) (by omega) (by omega), w64 (e := -u) (by omega) (by omega)]
  have e : Int.tdiv (-u) 2 = -(u / 2) := by rw [Int.neg_tdiv, tdiv_pos h0]
  rw [e, w64 (e := -(u / 2)) (by omega) (by omega)]
  split <;> rfl
def seR (d : ByteArray) (p : Nat) : Option (Int × Nat) := (ueR d p).map fun x => (openSe x.1, x.2)
theorem seR_some {d : ByteArray} (hr : RowP d) {p q : Nat} {v : Int} (hp : p ≤ d.size) (h : seR d p = some (v, q)) : -500000 ≤ v ∧ v ≤ 500000 ∧ q ≤ d.size := by
  unfold seR at h
  obtain ⟨⟨u, q'⟩, h1, h2⟩ := Option.map_eq_some_iff.1 h
  have r := ueR_some hr hp h1
  simp only [Prod.mk.injEq] at h2
  obtain ⟨rfl, rfl⟩ := h2
  have := openSe_range r.1 r.2.1
  exact ⟨this.1, this.2, r.2.2.2⟩
theorem spec_se_ev {d : ByteArray} (hr : RowP d) (p : Nat) (hp : p ≤ d.size) : Ev (fun k => spec_l03ReadSe.f k d p) (outS 0 (seR d p)) := by
  unfold spec_l03ReadSe.f seR
  refine Ev.bind (spec_l03ReadUe_ev hr p hp) ?_
  cases h : ueR d p with
  | none =>
    simp only [outS, Option.map_none, Bool.false_eq_true, if_false]
    exact Ev.some _
  | some x =>
    obtain ⟨u, q⟩ := x
    have r := ueR_some hr hp h
    simp only [outS, Option.map_some, if_true, spec_OpenSe_eq r.1 r.2.1, Option.bind_some]
    exact Ev.some _
theorem impl_se_bad (d : ByteArray) (p : Int) : Ev (fun k => impl_scan_se.f k d p true) (0, d, p, true) := by
  unfold impl_scan_se.f
  refine Ev.bind (impl_ue_bad d p) ?_
  simp only [impl_OpenSe_eq (u := 0) (by omega) (by omega), Option.bind_some, if_true]
  exact Ev.some _
theorem impl_se_ev {d : ByteArray} (hr : RowP d) (p : Nat) (hp : p ≤ d.size) : (∀ v q, seR d p = some (v, q) → Ev (fun k => impl_scan_se.f k d p false) (v, d, (q : Int), false)) ∧ (seR d p = none → ∃ q : Int, Ev (fun k => impl_scan_se.f k d p false) (0, d, q, true)) := by
  obtain ⟨h1, h2⟩ := impl_ue_ev hr p hp
  unfold impl_scan_se.f seR
  cases h : ueR d p with
  | none =>
    obtain ⟨q, hq⟩ := h2 h
    refine ⟨fun v q h => absurd h (by simp), fun _ => ⟨q, Ev.bind hq ?_⟩⟩
    simp only [impl_OpenSe_eq (u := 0) (by omega) (by omega), Option.bind_some, if_true]
    exact Ev.some _
  | some x =>
    obtain ⟨u, q⟩ := x
    have r := ueR_some hr hp h
    refine ⟨fun v q' hv => ?_, fun hv => absurd hv (by simp)⟩
    simp only [Option.map_some, Option.some.injEq, Prod.mk.injEq] at hv
    obtain ⟨rfl, rfl⟩ := hv
    refine Ev.bind (h1 _ _ h) ?_
    simp only [impl_OpenSe_eq r.1 r.2.1, Option.bind_some, Bool.false_eq_true, if_false, Bool.not_true]
    exact Ev.some _
-- runs
def runsGo (d : ByteArray) (n : Nat) : Nat → List Int → Nat → Nat → Option (List Int × Nat)
  | 0, out, _, p => some (out, p)
  | m + 1, out, a, p => match ueR d p with
    | none => none
    | some (g, q) => if (a : Int) + g ≥ n then none else match seR d q with
      | none => none
      | some (x, r) => if x = 0 then none else if -5000 ≤ x ∧ x ≤ 5000 then runsGo d n m (out.set (a + g.toNat) x) (a + g.toNat + 1) r else none
def runsR (d : ByteArray) (n p : Nat) : Option (List Int × Nat) := match ueR d p with
  | none => none
  | some (m, q) => runsGo d n m.toNat (List.replicate n 0) 0 q
theorem runsGo_some {d : ByteArray} (hr : RowP d) (n : Nat) : ∀ (m : Nat) (out : List Int) (a p : Nat) (o : List Int) (q : Nat), out.length = n → a ≤ n → p ≤ d.size → runsGo d n m out a p = some (o, q) → a + m ≤ n ∧ o.length = n ∧ q ≤ d.size
  | 0, out, a, p, o, q, hl, ha, hp, h => by
    simp only [runsGo, Option.some.injEq, Prod.mk.injEq] at h
    obtain ⟨rfl, rfl⟩ := h
    exact ⟨by omega, hl, hp⟩
  | m + 1, out, a, p, o, q, hl, ha, hp, h => by
    rw [runsGo] at h
    cases h1 : ueR d p with
    | none => simp [h1] at h
    | some x =>
      obtain ⟨g, q1⟩ := x
      have r1 := ueR_some hr hp h1
      simp only [h1] at h
      split at h
      · exact absurd h (by simp)
      · rename_i hg
        cases h2 : seR d q1 with
        | none => simp [h2] at h
        | some y =>
          obtain ⟨x, r⟩ := y
          have r2 := seR_some hr r1.2.2.2 h2
          simp only [h2] at h
          split at h
          · exact absurd h (by simp)
          · split at h
            · have := runsGo_some hr n m _ _ _ o q (by simpa using hl) (by omega) r2.2.2 h
              exact ⟨by omega, this.2⟩
            · exact absurd h (by simp)
theorem runsR_some {d : ByteArray} (hr : RowP d) {n p q : Nat} {o : List Int} (hp : p ≤ d.size) (h : runsR d n p = some (o, q)) : o.length = n ∧ q ≤ d.size := by
  unfold runsR at h
  cases h1 : ueR d p with
  | none => simp [h1] at h
  | some x =>
    obtain ⟨m, q1⟩ := x
    have r1 := ueR_some hr hp h1
    simp only [h1] at h
    exact (runsGo_some hr n _ _ _ _ o q (by simp) (by omega) r1.2.2.2 h).2
theorem spec_runs_loop {d : ByteArray} (hr : RowP d) (n M : Nat) (hn : n ≤ 64) (hM : M ≤ 64) : ∀ (m i : Nat) (out : List Int) (a p : Nat), i + m = M → out.length = n → a ≤ n → p ≤ d.size → Ev (fun k => spec_l11Read.l0 k d n out M p a i) (outS [] (runsGo d n m out a p))
  | 0, i, out, a, p, hi, hl, ha, hp => by
    simp only [runsGo, outS]
    exact Ev.step (f := fun _ => some (out, (p : Int), true)) (fun k => by rw [spec_l11Read.l0, if_neg (by omega)]) (Ev.some _)
  | m + 1, i, out, a, p, hi, hl, ha, hp => by
    have hz := hr.1
    refine Ev.step (fun k => by rw [spec_l11Read.l0, if_pos (by omega), w64 (e := (n : Int) - 1) (by omega) (by omega), w64 (e := (n : Int) - 1 - a) (by omega) (by omega)]) ?_
    refine Ev.bind (spec_l03ReadUe_ev hr p hp) ?_
    rw [runsGo]
    cases h1 : ueR d p with
    | none =>
      simp only [outS, Bool.false_eq_true, if_false]
      exact Ev.step (fun k => by rw [spec_l11Read.j2, if_pos rfl]) (Ev.some _)
    | some x =>
      obtain ⟨g, q⟩ := x
      have r1 := ueR_some hr hp h1
      simp only [outS, if_true]
      by_cases hg : (a : Int) + g ≥ n
      · rw [if_pos hg]
        simp only [show (g > (n : Int) - 1 - a) = True from eq_true (by omega), decide_true]
        exact Ev.step (fun k => by rw [spec_l11Read.j2, if_pos rfl]) (Ev.some _)
      · rw [if_neg hg]
        simp only [show (g > (n : Int) - 1 - a) = False from eq_false (by omega), decide_false]
        refine Ev.step (fun k => by rw [spec_l11Read.j2, if_neg (by decide), w64 (e := (a : Int) + g) (by omega) (by omega), w64 (e := (a : Int) + g + 1) (by omega) (by omega), w64 (e := (i : Int) + 1) (by omega) (by omega)]) ?_
        refine Ev.bind (spec_se_ev hr q r1.2.2.2) ?_
        cases h2 : seR d q with
        | none =>
          simp only [outS, Bool.false_eq_true, if_false]
          exact Ev.some _
        | some y =>
          obtain ⟨x, r⟩ := y
          have r2 := seR_some hr r1.2.2.2 h2
          simp only [outS, if_true]
          by_cases hx : x = 0
          · rw [if_pos hx]
            exact Ev.pos hx (Ev.some _)
          · rw [if_neg hx]
            refine Ev.neg hx ?_
            simp only [spec_l01In_eq, Option.bind_some, decide_eq_true_eq]
            by_cases hx2 : -5000 ≤ x ∧ x ≤ 5000
            · simp only [if_pos hx2]
              refine Ev.pos (by omega) (Ev.pos (by omega) ?_)
              have ih := spec_runs_loop hr n M hn hM m (i + 1) (out.set (a + g.toNat) x) (a + g.toNat + 1) r (by omega) (by simpa using hl) (by omega) r2.2.2
              have e1 : ((a : Int) + g).toNat = a + g.toNat := by omega
              have e2 : (a : Int) + g + 1 = ((a + g.toNat + 1 : Nat) : Int) := by omega
              have e3 : (i : Int) + 1 = ((i + 1 : Nat) : Int) := by omega
              rw [e1, e2, e3]
              exact ih
            · simp only [if_neg hx2]
              exact Ev.some _
theorem spec_runs_ev {d : ByteArray} (hr : RowP d) (n p : Nat) (hn : n ≤ 64) (hp : p ≤ d.size) : Ev (fun k => spec_l11Read.f k d p n) (outS [] (runsR d n p)) := by
  unfold spec_l11Read.f runsR
  refine Ev.pos (by omega) (Ev.pos (by omega) ?_)
  simp only [Option.bind_some, Int.toNat_natCast]
  refine Ev.bind (spec_l03ReadUe_ev hr p hp) ?_
  cases h1 : ueR d p with
  | none =>
    simp only [outS, Bool.false_eq_true, if_false]
    exact Ev.step (fun k => by rw [spec_l11Read.j0, if_pos rfl]) (Ev.some _)
  | some x =>
    obtain ⟨m, q⟩ := x
    have r1 := ueR_some hr hp h1
    simp only [outS, if_true]
    by_cases hm : m > n
    · simp only [show (m > (n : Int)) = True from eq_true hm, decide_true]
      have : runsGo d n m.toNat (List.replicate n 0) 0 q = none := by
        cases h : runsGo d n m.toNat (List.replicate n 0) 0 q with
        | none => rfl
        | some y =>
          have := (runsGo_some hr n _ _ _ _ y.1 y.2 (by simp) (by omega) r1.2.2.2 h).1
          omega
      rw [this]
      exact Ev.step (fun k => by rw [spec_l11Read.j0, if_pos rfl]) (Ev.some _)
    · simp only [show (m > (n : Int)) = False from eq_false hm, decide_false]
      refine Ev.step (fun k => by rw [spec_l11Read.j0, if_neg (by decide)]) ?_
      have := spec_runs_loop hr n m.toNat hn (by omega) m.toNat 0 (List.replicate n 0) 0 q (by omega) (by simp) (by omega) r1.2.2.2
      rw [show ((m.toNat : Nat) : Int) = m by omega] at this
      exact this
theorem impl_runs_loop {d : ByteArray} (hr : RowP d) (n : Nat) (hn : n ≤ 64) : ∀ (m : Nat) (out : List Int) (a p : Nat), m ≤ 1000000 → out.length = n → a ≤ n → p ≤ d.size → (∀ o q, runsGo d n m out a p = some (o, q) → Ev (fun k => impl_scan_runs.l0 k n out a m d p false) (o, d, (q : Int), false)) ∧ (runsGo d n m out a p = none → ∃ (o : List Int) (q : Int), o.length = n ∧ Ev (fun k => impl_scan_runs.l0 k n out a m d p false) (o, d, q, true))
  | 0, out, a, p, hm, hl, ha, hp => by
    refine ⟨fun o q h => ?_, fun h => absurd h (by simp [runsGo])⟩
    simp only [runsGo, Option.some.injEq, Prod.mk.injEq] at h
    obtain ⟨rfl, rfl⟩ := h
    refine Ev.step (fun k => by rw [impl_scan_runs.l0, if_neg (by omega)]) (Ev.step (f := fun _ => some (out, d, (p : Int), false)) (fun k => by rw [impl_scan_runs.j1, if_neg (by decide)]) (Ev.some _))
  | m + 1, out, a, p, hm, hl, ha, hp => by
    have hz := hr.1
    have start : ∀ res, Ev (fun k => (impl_scan_ue.f k d p false).bind fun bt277 => ((impl_scan_se.f k bt277.2.1 bt277.2.2.1 bt277.2.2.2).bind fun bt281 => (if (wrap64 ((a : Int) + bt277.1)) ≥ n then (some (out, bt281.2.1, bt281.2.2.1, true)) else (if bt281.1 = 0 then (some (out, bt281.2.1, bt281.2.2.1, true)) else ((impl_within.f bt281.1 (-5000) 5000).bind fun t285 => (if t285 = true then (if 0 ≤ (wrap64 ((a : Int) + bt277.1)) then (if (wrap64 ((a : Int) + bt277.1)) < (out.length : Int) then (impl_scan_runs.l0 k n (out.set ((wrap64 ((a : Int) + bt277.1)) : Int).toNat bt281.1) (wrap64 ((wrap64 ((a : Int) + bt277.1)) + 1)) (wrap64 (((m + 1 : Nat) : Int) - 1)) bt281.2.1 bt281.2.2.1 bt281.2.2.2) else (none)) else (none)) else (some (out, bt281.2.1, bt281.2.2.1, true)))))))) res → Ev (fun k => impl_scan_runs.l0 k n out a ((m + 1 : Nat) : Int) d p false) res := by
      intro res h
      refine Ev.step (fun k => by rw [impl_scan_runs.l0, if_pos (by omega)]) (Ev.step (fun k => by rw [impl_scan_runs.j1, if_pos (by decide)]) h)
    obtain ⟨u1, u2⟩ := impl_ue_ev hr p hp
    rw [runsGo]
    cases h1 : ueR d p with
    | none =>
      obtain ⟨q0, hq0⟩ := u2 h1
      refine ⟨fun o q h => absurd h (by simp), fun _ => ⟨out, q0, hl, start _ (Ev.bind hq0 (Ev.bind (impl_se_bad d q0) ?_))⟩⟩
      simp only [if_true]
      exact Ev.ite (fun _ => Ev.some _) (fun _ => Ev.some _)
    | some x =>
      obtain ⟨g, q⟩ := x
      have r1 := ueR_some hr hp h1
      have hu := u1 _ _ h1
      obtain ⟨s1, s2⟩ := impl_se_ev hr q r1.2.2.2
      simp only
      by_cases hg : (a : Int) + g ≥ n
      · rw [if_pos hg]
        refine ⟨fun o q h => absurd h (by simp), fun _ => ?_⟩
        cases h2 : seR d q with
        | none =>
          obtain ⟨q1, hq1⟩ := s2 h2
          refine ⟨out, q1, hl, start _ (Ev.bind hu (Ev.bind hq1 ?_))⟩
          rw [w64 (e := (a : Int) + g) (by omega) (by omega)]
          exact Ev.pos hg (Ev.some _)
        | some y =>
          refine ⟨out, (y.2 : Int), hl, start _ (Ev.bind hu (Ev.bind (s1 y.1 y.2 h2) ?_))⟩
          rw [w64 (e := (a : Int) + g) (by omega) (by omega)]
          exact Ev.pos hg (Ev.some _)
      · rw [if_neg hg]
        cases h2 : seR d q with
        | none =>
          obtain ⟨q1, hq1⟩ := s2 h2
          refine ⟨fun o q h => absurd h (by simp), fun _ => ⟨out, q1, hl, start _ (Ev.bind hu (Ev.bind hq1 ?_))⟩⟩
          rw [w64 (e := (a : Int) + g) (by omega) (by omega)]
          exact Ev.neg hg (Ev.pos rfl (Ev.some _))
        | some y =>
          obtain ⟨x, r⟩ := y
          have r2 := seR_some hr r1.2.2.2 h2
          have hs := s1 _ _ h2
          simp only
          by_cases hx : x = 0
          · rw [if_pos hx]
            refine ⟨fun o q h => absurd h (by simp), fun _ => ⟨out, (r : Int), hl, start _ (Ev.bind hu (Ev.bind hs ?_))⟩⟩
            rw [w64 (e := (a : Int) + g) (by omega) (by omega)]
            exact Ev.neg hg (Ev.pos hx (Ev.some _))
          · rw [if_neg hx]
            by_cases hx2 : -5000 ≤ x ∧ x ≤ 5000
            · rw [if_pos hx2]
              have ih := impl_runs_loop hr n hn m (out.set (a + g.toNat) x) (a + g.toNat + 1) r (by omega) (by simpa using hl) (by omega) r2.2.2
              have go : ∀ res, Ev (fun k => impl_scan_runs.l0 k n (out.set (a + g.toNat) x) ((a + g.toNat + 1 : Nat) : Int) m d r false) res → Ev (fun k => impl_scan_runs.l0 k n out a ((m + 1 : Nat) : Int) d p false) res := by
                intro res h
                refine start _ (Ev.bind hu (Ev.bind hs ?_))
                rw [w64 (e := (a : Int) + g) (by omega) (by omega), w64 (e := (a : Int) + g + 1) (by omega) (by omega), w64 (e := ((m + 1 : Nat) : Int) - 1) (by omega) (by omega)]
                refine Ev.neg hg (Ev.neg hx ?_)
                simp only [impl_within_eq, Option.bind_some, decide_eq_true_eq, if_pos hx2]
                refine Ev.pos (by omega) (Ev.pos (by omega) ?_)
                have e1 : ((a : Int) + g).toNat = a + g.toNat := by omega
                have e2 : (a : Int) + g + 1 = ((a + g.toNat + 1 : Nat) : Int) := by omega
                have e3 : ((m + 1 : Nat) : Int) - 1 = (m : Int) := by omega
                rw [e1, e2, e3]
                exact h
              refine ⟨fun o q' h => go _ (ih.1 o q' h), fun h => ?_⟩
              obtain ⟨o, q', ho, hq'⟩ := ih.2 h
              exact ⟨o, q', ho, go _ hq'⟩
            · rw [if_neg hx2]
              refine ⟨fun o q h => absurd h (by simp), fun _ => ⟨out, (r : Int), hl, start _ (Ev.bind hu (Ev.bind hs ?_))⟩⟩
              rw [w64 (e := (a : Int) + g) (by omega) (by omega)]
              refine Ev.neg hg (Ev.neg hx ?_)
              simp only [impl_within_eq, Option.bind_some, decide_eq_true_eq, if_neg hx2]
              exact Ev.some _
theorem impl_runs_ev {d : ByteArray} (hr : RowP d) (n p : Nat) (hn : n ≤ 64) (hp : p ≤ d.size) : (∀ o q, runsR d n p = some (o, q) → Ev (fun k => impl_scan_runs.f k d p false n) (o, d, (q : Int), false)) ∧ (runsR d n p = none → ∃ (o : List Int) (q : Int), o.length = n ∧ Ev (fun k => impl_scan_runs.f k d p false n) (o, d, q, true)) := by
  obtain ⟨u1, u2⟩ := impl_ue_ev hr p hp
  unfold impl_scan_runs.f runsR
  simp only [Int.toNat_natCast, if_pos (show (0 : Int) ≤ (n : Int) by omega), if_pos (show n ≤ 35184372088832 by omega)]
  cases h1 : ueR d p with
  | none =>
    obtain ⟨q0, hq0⟩ := u2 h1
    refine ⟨fun o q h => absurd h (by simp), fun _ => ⟨List.replicate n 0, q0, by simp, Ev.bind hq0 ?_⟩⟩
    exact Ev.step (fun k => by rw [impl_scan_runs.l0, if_neg (by omega)]) (Ev.step (fun k => by rw [impl_scan_runs.j1, if_neg (by decide)]) (Ev.some _))
  | some x =>
    obtain ⟨m, q⟩ := x
    have r1 := ueR_some hr hp h1
    have lp := impl_runs_loop hr n hn m.toNat (List.replicate n 0) 0 q (by omega) (by simp) (by omega) r1.2.2.2
    rw [show ((m.toNat : Nat) : Int) = m by omega] at lp
    refine ⟨fun o q' h => Ev.bind (u1 _ _ h1) (lp.1 o q' h), fun h => ?_⟩
    obtain ⟨o, q', ho, hq'⟩ := lp.2 h
    exact ⟨o, q', ho, Ev.bind (u1 _ _ h1) hq'⟩
theorem impl_runs_bad (d : ByteArray) (p : Int) (n : Nat) (hn : n ≤ 64) : Ev (fun k => impl_scan_runs.f k d p true n) (List.replicate n 0, d, p, true) := by
  unfold impl_scan_runs.f
  simp only [Int.toNat_natCast, if_pos (show (0 : Int) ≤ (n : Int) by omega), if_pos (show n ≤ 35184372088832 by omega)]
  refine Ev.bind (impl_ue_bad d p) ?_
  exact Ev.step (fun k => by rw [impl_scan_runs.l0, if_neg (by omega)]) (Ev.step (fun k => by rw [impl_scan_runs.j1, if_neg (by decide)]) (Ev.some _))
-- levels
def lev4 (d : ByteArray) : Nat → List Int → Nat → Option (List Int × Nat)
  | 0, out, p => some (out, p)
  | m + 1, out, p => match runsR d 16 p with
    | none => none
    | some (l, q) => lev4 d m (out ++ l) q
def levR (d : ByteArray) (large exact : Bool) (p : Nat) : Option (List Int × Nat) := if (large || exact) = true then runsR d 64 p else lev4 d 4 [] p
theorem lev4_some {d : ByteArray} (hr : RowP d) : ∀ (m : Nat) (out : List Int) (p : Nat) (o : List Int) (q : Nat), p ≤ d.size → lev4 d m out p = some (o, q) → q ≤ d.size
  | 0, out, p, o, q, hp, h => by
    simp only [lev4, Option.some.injEq, Prod.mk.injEq] at h
    omega
  | m + 1, out, p, o, q, hp, h => by
    rw [lev4] at h
    cases h1 : runsR d 16 p with
    | none => simp [h1] at h
    | some x =>
      simp only [h1] at h
      exact lev4_some hr m _ _ o q (runsR_some hr hp h1).2 h
theorem levR_some {d : ByteArray} (hr : RowP d) {large exact : Bool} {p q : Nat} {o : List Int} (hp : p ≤ d.size) (h : levR d large exact p = some (o, q)) : q ≤ d.size := by
  unfold levR at h
  split at h
  · exact (runsR_some hr hp h).2
  · exact lev4_some hr _ _ _ _ _ hp h
theorem spec_lev4_ev {d : ByteArray} (hr : RowP d) : ∀ (m i : Nat) (out : List Int) (p : Nat), i + m = 4 → out.length = 16 * i → p ≤ d.size → Ev (fun k => spec_l14Read.l0 k d p out i) (outS [] (lev4 d m out p))
  | 0, i, out, p, hi, hl, hp => by
    simp only [lev4, outS]
    exact Ev.step (f := fun _ => some (out, (p : Int), true)) (fun k => by rw [spec_l14Read.l0, if_neg (by omega)]) (Ev.some _)
  | m + 1, i, out, p, hi, hl, hp => by
    rw [lev4]
    refine Ev.step (fun k => by rw [spec_l14Read.l0, if_pos (by omega), w64 (e := (i : Int) + 1) (by omega) (by omega)]) ?_
    have e16 := spec_runs_ev hr 16 p (by omega) hp
    refine Ev.bind e16 ?_
    cases h1 : runsR d 16 p with
    | none =>
      simp only [outS, Bool.false_eq_true, if_false]
      exact Ev.some _
    | some x =>
      obtain ⟨l, q⟩ := x
      have r := runsR_some hr hp h1
      simp only [outS, if_true]
      refine Ev.pos (by omega) ?_
      have ih := spec_lev4_ev hr m (i + 1) (out ++ l) q (by omega) (by rw [List.length_append]; omega) r.2
      rw [show (i : Int) + 1 = ((i + 1 : Nat) : Int) by omega]
      exact ih
theorem spec_lev_ev {d : ByteArray} (hr : RowP d) (key : Bool) (qp : Int) (large exact : Bool) (p : Nat) (hp : p ≤ d.size) : Ev (fun k => spec_l14Read.f k d p key qp large exact) (outS [] (levR d large exact p)) := by
  unfold spec_l14Read.f levR
  have big : Ev (fun k => spec_l14Read.j0 k d p true) (outS [] (runsR d 64 p)) := by
    refine Ev.step (fun k => by rw [spec_l14Read.j0, if_pos rfl]) ?_
    have e := spec_runs_ev hr 64 p (by omega) hp
    exact Ev.bind e (Ev.some _)
  cases large
  · cases exact
    · simp only [Bool.false_eq_true, if_false, Bool.or_self]
      refine Ev.step (fun k => by rw [spec_l14Read.j0, if_neg (by decide)]) ?_
      exact spec_lev4_ev hr 4 0 [] p rfl rfl hp
    · simpa using big
  · simpa using big
theorem impl_lev4_bad (d : ByteArray) (p : Int) : ∀ (m i : Nat) (out : List Int), i + m = 4 → out.length = 16 * i → ∃ o : List Int, Ev (fun k => impl_scan_levels.l0 k out i d p true) (o, d, p, true)
  | 0, i, out, hi, hl => ⟨out, Ev.step (f := fun _ => some (out, d, p, true)) (fun k => by rw [impl_scan_levels.l0, if_neg (by omega)]) (Ev.some _)⟩
  | m + 1, i, out, hi, hl => by
    obtain ⟨o, ho⟩ := impl_lev4_bad d p m (i + 1) (out ++ List.replicate 16 0) (by omega) (by rw [List.length_append, List.length_replicate]; omega)
    refine ⟨o, Ev.step (fun k => by rw [impl_scan_levels.l0, if_pos (by omega), w64 (e := (i : Int) + 1) (by omega) (by omega)]) ?_⟩
    have e16 := impl_runs_bad d p 16 (by omega)
    refine Ev.bind e16 ?_
    simp only [List.length_replicate]
    refine Ev.pos (by omega) ?_
    rw [show (i : Int) + 1 = ((i + 1 : Nat) : Int) by omega]
    exact ho
theorem impl_lev4_ev {d : ByteArray} (hr : RowP d) : ∀ (m i : Nat) (out : List Int) (p : Nat), i + m = 4 → out.length = 16 * i → p ≤ d.size → (∀ o q, lev4 d m out p = some (o, q) → Ev (fun k => impl_scan_levels.l0 k out i d p false) (o, d, (q : Int), false)) ∧ (lev4 d m out p = none → ∃ (o : List Int) (q : Int), Ev (fun k => impl_scan_levels.l0 k out i d p false) (o, d, q, true))
  | 0, i, out, p, hi, hl, hp => by
    refine ⟨fun o q h => ?_, fun h => absurd h (by simp [lev4])⟩
    simp only [lev4, Option.some.injEq, Prod.mk.injEq] at h
    obtain ⟨rfl, rfl⟩ := h
    exact Ev.step (f := fun _ => some (out, d, (p : Int), false)) (fun k => by rw [impl_scan_levels.l0, if_neg (by omega)]) (Ev.some _)
  | m + 1, i, out, p, hi, hl, hp => by
    rw [lev4]
    obtain ⟨u1, u2⟩ := impl_runs_ev hr 16 p (by omega) hp
    have start : ∀ (l : List Int) (q : Int) (b : Bool) res, l.length = 16 → Ev (fun k => impl_scan_runs.f k d p false (16 : Nat)) (l, d, q, b) → Ev (fun k => impl_scan_levels.l0 k (out ++ l) ((i + 1 : Nat) : Int) d q b) res → Ev (fun k => impl_scan_levels.l0 k out i d p false) res := by
      intro l q b res hl16 h1 h2
      refine Ev.step (fun k => by rw [impl_scan_levels.l0, if_pos (by omega), w64 (e := (i : Int) + 1) (by omega) (by omega)]) ?_
      refine Ev.bind h1 ?_
      refine Ev.pos (by simp only [hl16]; omega) ?_
      rw [show (i : Int) + 1 = ((i + 1 : Nat) : Int) by omega]
      exact h2
    cases h1 : runsR d 16 p with
    | none =>
      obtain ⟨l, q, hl16, hq⟩ := u2 h1
      obtain ⟨o, ho⟩ := impl_lev4_bad d q m (i + 1) (out ++ l) (by omega) (by rw [List.length_append]; omega)
      exact ⟨fun o q h => absurd h (by simp), fun _ => ⟨o, q, start l q true _ hl16 hq ho⟩⟩
    | some x =>
      obtain ⟨l, q⟩ := x
      have r := runsR_some hr hp h1
      have ih := impl_lev4_ev hr m (i + 1) (out ++ l) q (by omega) (by rw [List.length_append]; omega) r.2
      refine ⟨fun o q' h => start l q false _ r.1 (u1 _ _ h1) (ih.1 o q' h), fun h => ?_⟩
      obtain ⟨o, q', hq'⟩ := ih.2 h
      exact ⟨o, q', start l q false _ r.1 (u1 _ _ h1) hq'⟩
theorem impl_lev_bad (d : ByteArray) (p : Int) (key : Bool) (qp : Int) (large exact : Bool) : ∃ o : List Int, Ev (fun k => impl_scan_levels.f k d p true key qp large exact) (o, d, p, true) := by
  unfold impl_scan_levels.f
  have big : Ev (fun k => impl_scan_levels.j0 k true d p true) (List.replicate 64 0, d, p, true) := by
    refine Ev.step (fun k => by rw [impl_scan_levels.j0, if_pos rfl]) ?_
    have e := impl_runs_bad d p 64 (by omega)
    exact Ev.bind e (Ev.some _)
  cases large
  · cases exact
    · obtain ⟨o, ho⟩ := impl_lev4_bad d p 4 0 [] rfl rfl
      refine ⟨o, ?_⟩
      simp only [Bool.false_eq_true, if_false]
      exact Ev.step (fun k => by rw [impl_scan_levels.j0, if_neg (by decide)]; rfl) ho
    · exact ⟨_, by simpa using big⟩
  · exact ⟨_, by simpa using big⟩
theorem impl_lev_ev {d : ByteArray} (hr : RowP d) (key : Bool) (qp : Int) (large exact : Bool) (p : Nat) (hp : p ≤ d.size) : (∀ o q, levR d large exact p = some (o, q) → Ev (fun k => impl_scan_levels.f k d p false key qp large exact) (o, d, (q : Int), false)) ∧ (levR d large exact p = none → ∃ (o : List Int) (q : Int), Ev (fun k => impl_scan_levels.f k d p false key qp large exact) (o, d, q, true)) := by
  unfold impl_scan_levels.f levR
  obtain ⟨u1, u2⟩ := impl_runs_ev hr 64 p (by omega) hp
  have big : ∀ (o : List Int) (q : Int) (b : Bool), Ev (fun k => impl_scan_runs.f k d p false (64 : Nat)) (o, d, q, b) → Ev (fun k => impl_scan_levels.j0 k true d p false) (o, d, q, b) := by
    intro o q b h
    refine Ev.step (fun k => by rw [impl_scan_levels.j0, if_pos rfl]) ?_
    exact Ev.bind h (Ev.some _)
  have hbig : (∀ o q, runsR d 64 p = some (o, q) → Ev (fun k => impl_scan_levels.j0 k true d p false) (o, d, (q : Int), false)) ∧ (runsR d 64 p = none → ∃ (o : List Int) (q : Int), Ev (fun k => impl_scan_levels.j0 k true d p false) (o, d, q, true)) := by
    refine ⟨fun o q h => big _ _ _ (u1 o q h), fun h => ?_⟩
    obtain ⟨o, q, _, hq⟩ := u2 h
    exact ⟨o, q, big _ _ _ hq⟩
  cases large
  · cases exact
    · simp only [Bool.false_eq_true, if_false, Bool.or_self]
      have lp := impl_lev4_ev hr 4 0 [] p rfl rfl hp
      refine ⟨fun o q h => Ev.step (fun k => by rw [impl_scan_levels.j0, if_neg (by decide)]; rfl) (lp.1 o q h), fun h => ?_⟩
      obtain ⟨o, q, hq⟩ := lp.2 h
      exact ⟨o, q, Ev.step (fun k => by rw [impl_scan_levels.j0, if_neg (by decide)]; rfl) hq⟩
    · simpa using hbig
  · simpa using hbig
-- squares
def lvIn (x : Int) : Bool := decide (-5000 ≤ x ∧ x ≤ 5000)
def lv64 (l : List Int) : Bool := decide (l.length = 64) && l.all lvIn
theorem spec_l09All_lv (l : List Int) : Ev (fun k => spec_l09All.f k l 64 5000) (lv64 l) := by
  unfold spec_l09All.f lv64
  by_cases h0 : (l.length : Int) = 64
  · have hl : l.length = 64 := by omega
    simp only [if_pos h0, decide_eq_true hl, Bool.true_and]
    have key : ∀ i, i ≤ l.length → Ev (fun k => spec_l09All.l0 k l 64 5000 i) ((l.drop i).all lvIn) := by
      refine down_to _ ?_ ?_
      · rw [List.drop_length]
        exact Ev.step (f := fun _ => some true) (fun k => by rw [spec_l09All.l0, if_neg (by omega)]) (Ev.some _)
      · intro i hi ih
        refine Ev.step (fun k => by rw [spec_l09All.l0, if_pos (by omega), if_pos (by omega), if_pos (by omega), spec_l01In_eq, Option.bind_some, w64 (e := -5000) (by omega) (by omega), w64_succ hi (by omega)]) ?_
        rw [rd_drop l i hi, List.all_cons]
        simp only [decide_eq_true_eq]
        refine Ev.ite (fun h => ?_) (fun h => ?_)
        · simpa [lvIn, h] using ih
        · simpa [lvIn, h] using Ev.some false
    simpa using key 0 (by omega)
  · simp only [if_neg h0, decide_eq_false (show ¬ l.length = 64 by omega), Bool.false_and]
    exact Ev.some _
theorem impl_areLevels_ev (l : List Int) (hl : l.length ≤ 9223372036854775806) : Ev (fun k => impl_areLevels.f k l) (lv64 l) := by
  unfold impl_areLevels.f impl_areIn.f
  have key : ∀ i, i ≤ l.length → Ev (fun k => impl_areIn.l0 k l 64 (-5000) 5000 l (l.length : Int) i) ((l.drop i).all lvIn && decide (l.length = 64)) := by
    refine down_to _ ?_ ?_
    · rw [List.drop_length]
      refine Ev.step (f := fun _ => some ((l.length : Int) == 64)) (fun k => by rw [impl_areIn.l0, if_neg (by omega)]) (Ev.const ?_)
      simp only [List.all_nil, Bool.true_and, Option.some.injEq]
      rw [Bool.eq_iff_iff]; simp; omega
    · intro i hi ih
      refine Ev.step (fun k => by rw [impl_areIn.l0, if_pos (by omega), if_pos (by omega), if_pos (by omega), impl_within_eq, Option.bind_some, w64_succ hi (by omega)]) ?_
      rw [rd_drop l i hi, List.all_cons]
      simp only [decide_eq_true_eq]
      refine Ev.ite (fun h => ?_) (fun h => ?_)
      · simpa [lvIn, h] using ih
      · simpa [lvIn, h] using Ev.some false
  have := key 0 (by omega)
  rw [List.drop_zero, Bool.and_comm] at this
  exact Ev.bind this (Ev.some _)
def sqOkB (kd mode dx dy : Int) (l : List Int) : Bool := if kd = 0 then (mode == 0 && (dx == 0 && (dy == 0 && ((l.length : Int) == 0)))) else if kd = 1 then (mode == 0 && (decide (-16 ≤ dx ∧ dx ≤ 16) && (decide (-16 ≤ dy ∧ dy ≤ 16) && lv64 l))) else if kd = 2 then (decide (0 ≤ mode ∧ mode ≤ 3) && (dx == 0 && (dy == 0 && lv64 l))) else false
theorem spec_SquareOk_ev (kd mode dx dy : Int) (l : List Int) : Ev (fun k => spec_SquareOk.f k kd mode dx dy l) (sqOkB kd mode dx dy l) := by
  unfold spec_SquareOk.f sqOkB
  simp only [spec_l01In_eq, Option.bind_some, decide_eq_true_eq]
  by_cases h0 : kd = 0
  · simp only [if_pos h0]
    refine Ev.const ?_
    by_cases h1 : mode = 0
    · by_cases h2 : dx = 0
      · by_cases h3 : dy = 0
        · simp [h1, h2, h3]
        · simp [h1, h2, h3]
      · simp [h1, h2]
    · simp [h1]
  simp only [if_neg h0]
  by_cases h1 : kd = 1
  · simp only [if_pos h1]
    by_cases h2 : mode = 0
    · by_cases h3 : -16 ≤ dx ∧ dx ≤ 16
      · by_cases h4 : -16 ≤ dy ∧ dy ≤ 16
        · simp only [if_pos h2, if_pos h3, if_pos h4, decide_eq_true h3, decide_eq_true h4, Bool.true_and, h2, beq_self_eq_true]
          exact Ev.bind (spec_l09All_lv l) (Ev.some _)
        · simpa [h2, h3, h4] using Ev.some false
      · simpa [h2, h3] using Ev.some false
    · simpa [h2, (beq_eq_false_iff_ne.mpr h2 : (mode == 0) = false)] using Ev.some false
  simp only [if_neg h1]
  by_cases h2 : kd = 2
  · simp only [if_pos h2]
    by_cases h3 : 0 ≤ mode ∧ mode ≤ 3
    · by_cases h4 : dx = 0
      · by_cases h5 : dy = 0
        · simp only [if_pos h3, if_pos h4, if_pos h5, decide_eq_true h3, Bool.true_and, h4, h5, beq_self_eq_true]
          exact Ev.bind (spec_l09All_lv l) (Ev.some _)
        · simpa [h3, h4, h5, (beq_eq_false_iff_ne.mpr h5 : (dy == 0) = false)] using Ev.some false
      · simpa [h3, h4, (beq_eq_false_iff_ne.mpr h4 : (dx == 0) = false)] using Ev.some false
    · simpa [h3] using Ev.some false
  · simp only [if_neg h2]
    exact Ev.some _
theorem impl_SquareOk_ev (kd mode dx dy : Int) (l : List Int) (hl : l.length ≤ 9223372036854775806) : Ev (fun k => impl_SquareOk.f k kd mode dx dy l) (sqOkB kd mode dx dy l) := by
  unfold impl_SquareOk.f sqOkB
  simp only [impl_within_eq, Option.bind_some, decide_eq_true_eq]
  by_cases h0 : kd = 0
  · simp only [if_pos h0]
    refine Ev.const ?_
    by_cases h1 : mode = 0
    · by_cases h2 : dx = 0
      · by_cases h3 : dy = 0
        · simp [h1, h2, h3]
        · simp [h1, h2, h3]
      · simp [h1, h2]
    · simp [h1]
  simp only [if_neg h0]
  by_cases h1 : kd = 1
  · simp only [if_pos h1]
    by_cases h2 : mode = 0
    · by_cases h3 : -16 ≤ dx ∧ dx ≤ 16
      · by_cases h4 : -16 ≤ dy ∧ dy ≤ 16
        · simp only [if_pos h2, if_pos h3, if_pos h4, decide_eq_true h3, decide_eq_true h4, Bool.true_and, h2, beq_self_eq_true]
          exact Ev.bind (impl_areLevels_ev l hl) (Ev.some _)
        · simpa [h2, h3, h4] using Ev.some false
      · simpa [h2, h3] using Ev.some false
    · simpa [h2, (beq_eq_false_iff_ne.mpr h2 : (mode == 0) = false)] using Ev.some false
  simp only [if_neg h1]
  by_cases h2 : kd = 2
  · simp only [if_pos h2]
    by_cases h3 : 0 ≤ mode ∧ mode ≤ 3
    · by_cases h4 : dx = 0
      · by_cases h5 : dy = 0
        · simp only [if_pos h3, if_pos h4, if_pos h5, decide_eq_true h3, Bool.true_and, h4, h5, beq_self_eq_true]
          exact Ev.bind (impl_areLevels_ev l hl) (Ev.some _)
        · simpa [h3, h4, h5, (beq_eq_false_iff_ne.mpr h5 : (dy == 0) = false)] using Ev.some false
      · simpa [h3, h4, (beq_eq_false_iff_ne.mpr h4 : (dx == 0) = false)] using Ev.some false
    · simpa [h3] using Ev.some false
  · simp only [if_neg h2]
    exact Ev.some _
-- a square that is read
abbrev Sq5 : Type := Int × Int × Int × Int × List Int
def sqBody (d : ByteArray) (large exact : Bool) (kd : Int) (p : Nat) : Option (Sq5 × Nat) :=
  if kd = 0 then some ((0, 0, 0, 0, []), p)
  else if kd = 1 then match seR d p with
    | none => none
    | some (dx, q1) => match seR d q1 with
      | none => none
      | some (dy, q2) => match levR d large exact q2 with
        | none => none
        | some (l, q3) => if sqOkB 1 0 dx dy l = true then some ((1, 0, dx, dy, l), q3) else none
  else match ueR d p with
    | none => none
    | some (mode, q1) => match levR d large exact q1 with
      | none => none
      | some (l, q2) => if sqOkB 2 mode 0 0 l = true then some ((2, mode, 0, 0, l), q2) else none
def sqR (d : ByteArray) (key large exact : Bool) (p : Nat) : Option (Sq5 × Nat) :=
  if key = true then sqBody d large exact 2 p else match ueR d p with
    | none => none
    | some (kd, q) => if kd > 2 then none else sqBody d large exact kd q
def outQ (o : Option (Sq5 × Nat)) : Int × Int × Int × Int × List Int × Int × Bool := match o with
  | some ((a, b, c, e, l), q) => (a, b, c, e, l, (q : Int), true)
  | none => (0, 0, 0, 0, [], 0, false)
theorem sqBody_some {d : ByteArray} (hr : RowP d) {large exact : Bool} {kd : Int} {p q : Nat} {s : Sq5} (hp : p ≤ d.size) (h : sqBody d large exact kd p = some (s, q)) : q ≤ d.size := by
  unfold sqBody at h
  split at h
  · simp only [Option.some.injEq, Prod.mk.injEq] at h; omega
  · split at h
    · cases h1 : seR d p with
      | none => simp [h1] at h
      | some x =>
        simp only [h1] at h
        have r1 := seR_some hr hp h1
        cases h2 : seR d x.2 with
        | none => simp [h2] at h
        | some y =>
          simp only [h2] at h
          have r2 := seR_some hr r1.2.2 h2
          cases h3 : levR d large exact y.2 with
          | none => simp [h3] at h
          | some z =>
            simp only [h3] at h
            have r3 := levR_some hr r2.2.2 h3
            split at h
            · simp only [Option.some.injEq, Prod.mk.injEq] at h; omega
            · exact absurd h (by simp)
    · cases h1 : ueR d p with
      | none => simp [h1] at h
      | some x =>
        simp only [h1] at h
        have r1 := ueR_some hr hp h1
        cases h3 : levR d large exact x.2 with
        | none => simp [h3] at h
        | some z =>
          simp only [h3] at h
          have r3 := levR_some hr r1.2.2.2 h3
          split at h
          · simp only [Option.some.injEq, Prod.mk.injEq] at h; omega
          · exact absurd h (by simp)
theorem sqR_some {d : ByteArray} (hr : RowP d) {key large exact : Bool} {p q : Nat} {s : Sq5} (hp : p ≤ d.size) (h : sqR d key large exact p = some (s, q)) : q ≤ d.size := by
  unfold sqR at h
  split at h
  · exact sqBody_some hr hp h
  · cases h1 : ueR d p with
    | none => simp [h1] at h
    | some x =>
      simp only [h1] at h
      have r1 := ueR_some hr hp h1
      split at h
      · exact absurd h (by simp)
      · exact sqBody_some hr r1.2.2.2 h
-- a square that is read: spec
theorem spec_sq_tail {d : ByteArray} (hr : RowP d) (key : Bool) (qp : Int) (large exact : Bool) (kd mode dx dy : Int) (p : Nat) (hp : p ≤ d.size) : Ev (fun k => spec_l15Read.j1 k d p true key qp large exact kd mode dx dy) (outQ (match levR d large exact p with
    | none => none
    | some (l, q) => if sqOkB kd mode dx dy l = true then some ((kd, mode, dx, dy, l), q) else none)) := by
  refine Ev.step (fun k => by rw [spec_l15Read.j1, if_pos rfl]) ?_
  refine Ev.bind (spec_lev_ev hr key qp large exact p hp) ?_
  cases h : levR d large exact p with
  | none =>
    simp only [outS, outQ, Bool.false_eq_true, if_false]
    exact Ev.some _
  | some x =>
    simp only [outS, if_true]
    refine Ev.bind (spec_SquareOk_ev kd mode dx dy x.1) ?_
    cases sqOkB kd mode dx dy x.1
    · simp only [outQ, Bool.false_eq_true, if_false]
      exact Ev.some _
    · simp only [outQ, if_true]
      exact Ev.some _
theorem spec_sq_no (d : ByteArray) (p : Int) (key : Bool) (qp : Int) (large exact : Bool) (kd mode dx dy : Int) : Ev (fun k => spec_l15Read.j1 k d p false key qp large exact kd mode dx dy) (outQ none) := by
  exact Ev.step (f := fun _ => some (outQ none)) (fun k => by rw [spec_l15Read.j1, if_neg (by decide)]; rfl) (Ev.some _)
theorem spec_sqBody_ev {d : ByteArray} (hr : RowP d) (key : Bool) (qp : Int) (large exact : Bool) (kd : Int) (hk : 0 ≤ kd ∧ kd ≤ 2) (p : Nat) (hp : p ≤ d.size) : Ev (fun k => spec_l15Read.j0 k d p key qp large exact kd 0 0 0) (outQ (sqBody d large exact kd p)) := by
  unfold sqBody
  refine Ev.step (fun k => by rw [spec_l15Read.j0]) ?_
  by_cases h0 : kd = 0
  · subst h0
    simp only [if_true]
    exact Ev.some _
  simp only [if_neg h0]
  by_cases h1 : kd = 1
  · subst h1
    simp only [if_true]
    refine Ev.bind (spec_se_ev hr p hp) ?_
    cases hs1 : seR d p with
    | none =>
      simp only [outS, Bool.false_eq_true, if_false]
      exact Ev.some _
    | some x =>
      obtain ⟨dx, q1⟩ := x
      have r1 := seR_some hr hp hs1
      simp only [outS, if_true]
      refine Ev.bind (spec_se_ev hr q1 r1.2.2) ?_
      cases hs2 : seR d q1 with
      | none => exact spec_sq_no _ _ _ _ _ _ _ _ _ _
      | some y =>
        obtain ⟨dy, q2⟩ := y
        have r2 := seR_some hr r1.2.2 hs2
        exact spec_sq_tail hr key qp large exact 1 0 dx dy q2 r2.2.2
  · simp only [if_neg h1]
    obtain rfl : kd = 2 := by omega
    refine Ev.bind (spec_l03ReadUe_ev hr p hp) ?_
    cases hu : ueR d p with
    | none => exact spec_sq_no _ _ _ _ _ _ _ _ _ _
    | some x =>
      obtain ⟨mode, q1⟩ := x
      have r1 := ueR_some hr hp hu
      exact spec_sq_tail hr key qp large exact 2 mode 0 0 q1 r1.2.2.2
theorem spec_sq_ev {d : ByteArray} (hr : RowP d) (key : Bool) (qp : Int) (large exact : Bool) (p : Nat) (hp : p ≤ d.size) : Ev (fun k => spec_l15Read.f k d p key qp large exact) (outQ (sqR d key large exact p)) := by
  unfold spec_l15Read.f sqR
  cases key
  · simp only [Bool.false_eq_true, if_false]
    refine Ev.bind (spec_l03ReadUe_ev hr p hp) ?_
    cases hu : ueR d p with
    | none =>
      simp only [outS, outQ, Bool.false_eq_true, if_false]
      exact Ev.some _
    | some x =>
      obtain ⟨kd, q⟩ := x
      have r := ueR_some hr hp hu
      simp only [outS, if_true]
      by_cases h2 : kd > 2
      · rw [if_pos h2]
        exact Ev.pos h2 (Ev.some _)
      · rw [if_neg h2]
        exact Ev.neg h2 (spec_sqBody_ev hr false qp large exact kd (by omega) q r.2.2.2)
  · simp only [if_true]
    exact spec_sqBody_ev hr true qp large exact 2 (by omega) p hp
-- a square that is read: impl
theorem impl_sqBody_bad (d : ByteArray) (p : Int) (key : Bool) (qp : Int) (large exact : Bool) (kd a b c : Int) : Ev (fun k => impl_scan_square.j0 k d p true key qp large exact kd a b c) (kd, a, b, c, [], d, p, true) :=
  Ev.step (f := fun _ => some (kd, a, b, c, [], d, p, true)) (fun k => by rw [impl_scan_square.j0, if_pos rfl]) (Ev.some _)
theorem impl_sq_bad (d : ByteArray) (p : Int) (key : Bool) (qp : Int) (large exact : Bool) : ∃ kd : Int, Ev (fun k => impl_scan_square.f k d p true key qp large exact) (kd, 0, 0, 0, [], d, p, true) := by
  unfold impl_scan_square.f
  cases key
  · simp only [Bool.false_eq_true, if_false]
    exact ⟨0, Ev.bind (impl_ue_bad d p) (impl_sqBody_bad d p false qp large exact 0 0 0 0)⟩
  · simp only [if_true]
    exact ⟨2, impl_sqBody_bad d p true qp large exact 2 0 0 0⟩
theorem lev_len {d : ByteArray} (hr : RowP d) {large exact : Bool} {p q : Nat} {l : List Int} (hp : p ≤ d.size) (h : levR d large exact p = some (l, q)) : l.length ≤ 9223372036854775806 := by
  have key : ∀ (m : Nat) (out : List Int) (p : Nat), p ≤ d.size → ∀ o q, lev4 d m out p = some (o, q) → o.length = out.length + 16 * m := by
    intro m
    induction m with
    | zero =>
      intro out p hp o q h
      simp only [lev4, Option.some.injEq, Prod.mk.injEq] at h
      rw [← h.1]; omega
    | succ m ih =>
      intro out p hp o q h
      rw [lev4] at h
      cases h1 : runsR d 16 p with
      | none => simp [h1] at h
      | some x =>
        simp only [h1] at h
        have r := runsR_some hr hp h1
        have := ih _ _ r.2 o q h
        rw [List.length_append] at this
        omega
  unfold levR at h
  split at h
  · have := (runsR_some hr hp h).1; omega
  · have := key 4 [] p hp l q h; simp at this; omega
theorem impl_sqBody_ev {d : ByteArray} (hr : RowP d) (key : Bool) (qp : Int) (large exact : Bool) (kd : Int) (hk : 0 ≤ kd) (p : Nat) (hp : p ≤ d.size) : (∀ a b c e l q, (if kd > 2 then none else sqBody d large exact kd p) = some ((a, b, c, e, l), q) → Ev (fun k => impl_scan_square.j0 k d p false key qp large exact kd 0 0 0) (a, b, c, e, l, d, (q : Int), false)) ∧ ((if kd > 2 then none else sqBody d large exact kd p) = none → ∃ (a b c e : Int) (l : List Int) (q : Int), Ev (fun k => impl_scan_square.j0 k d p false key qp large exact kd 0 0 0) (a, b, c, e, l, d, q, true)) := by
  have st : ∀ {g : Nat → Option (Int × Int × Int × Int × List Int × ByteArray × Int × Bool)} {res}, (∀ k, impl_scan_square.j0 (k + 1) d p false key qp large exact kd 0 0 0 = g k) → Ev g res → Ev (fun k => impl_scan_square.j0 k d p false key qp large exact kd 0 0 0) res := fun h1 h2 => Ev.step h1 h2
  by_cases h1 : kd = 1
  · subst h1
    have start := fun res => @st _ res (fun k => by rw [impl_scan_square.j0, if_neg (by decide), if_pos rfl])
    rw [if_neg (by omega)]
    unfold sqBody
    simp only [if_true]
    rw [if_neg (by omega)]
    obtain ⟨s1, s2⟩ := impl_se_ev hr p hp
    cases hs1 : seR d p with
    | none =>
      obtain ⟨q0, hq0⟩ := s2 hs1
      obtain ⟨o, ho⟩ := impl_lev_bad d q0 key qp large exact
      refine ⟨fun _ _ _ _ _ _ h => absurd h (by simp), fun _ => ⟨1, 0, 0, 0, o, q0, start _ (Ev.bind hq0 (Ev.bind (impl_se_bad d q0) (Ev.bind ho ?_)))⟩⟩
      simp only [if_true]
      exact Ev.some _
    | some x =>
      obtain ⟨dx, q1⟩ := x
      have r1 := seR_some hr hp hs1
      obtain ⟨t1, t2⟩ := impl_se_ev hr q1 r1.2.2
      simp only
      cases hs2 : seR d q1 with
      | none =>
        obtain ⟨q0, hq0⟩ := t2 hs2
        obtain ⟨o, ho⟩ := impl_lev_bad d q0 key qp large exact
        refine ⟨fun _ _ _ _ _ _ h => absurd h (by simp), fun _ => ⟨1, 0, dx, 0, o, q0, start _ (Ev.bind (s1 _ _ hs1) (Ev.bind hq0 (Ev.bind ho ?_)))⟩⟩
        simp only [if_true]
        exact Ev.some _
      | some y =>
        obtain ⟨dy, q2⟩ := y
        have r2 := seR_some hr r1.2.2 hs2
        obtain ⟨l1, l2⟩ := impl_lev_ev hr key qp large exact q2 r2.2.2
        simp only
        cases hl : levR d large exact q2 with
        | none =>
          obtain ⟨o, q0, ho⟩ := l2 hl
          refine ⟨fun _ _ _ _ _ _ h => absurd h (by simp), fun _ => ⟨1, 0, dx, dy, o, q0, start _ (Ev.bind (s1 _ _ hs1) (Ev.bind (t1 _ _ hs2) (Ev.bind ho ?_)))⟩⟩
          simp only [if_true]
          exact Ev.some _
        | some z =>
          obtain ⟨l, q3⟩ := z
          have okE := impl_SquareOk_ev 1 0 dx dy l (lev_len hr r2.2.2 hl)
          have fin : ∀ b, sqOkB 1 0 dx dy l = b → Ev (fun k => impl_scan_square.j0 k d p false key qp large exact 1 0 0 0) (1, 0, dx, dy, l, d, (q3 : Int), !b) := by
            intro b hb
            rw [hb] at okE
            refine start _ (Ev.bind (s1 _ _ hs1) (Ev.bind (t1 _ _ hs2) (Ev.bind (l1 _ _ hl) ?_)))
            simp only [Bool.false_eq_true, if_false]
            exact Ev.bind okE (Ev.some _)
          simp only
          cases hb : sqOkB 1 0 dx dy l
          · simp only [Bool.false_eq_true, if_false]
            exact ⟨fun _ _ _ _ _ _ h => absurd h (by simp), fun _ => ⟨_, _, _, _, l, _, fin false hb⟩⟩
          · simp only [if_true]
            refine ⟨fun a b c e l' q h => ?_, fun h => absurd h (by simp)⟩
            simp only [Option.some.injEq, Prod.mk.injEq] at h
            obtain ⟨⟨rfl, rfl, rfl, rfl, rfl⟩, rfl⟩ := h
            exact fin true hb
  by_cases h2 : kd = 2
  · subst h2
    have start := fun res => @st _ res (fun k => by rw [impl_scan_square.j0, if_neg (by decide), if_neg (by decide), if_pos rfl])
    rw [if_neg (by omega)]
    unfold sqBody
    rw [if_neg (by omega), if_neg (by omega)]
    obtain ⟨s1, s2⟩ := impl_ue_ev hr p hp
    cases hs1 : ueR d p with
    | none =>
      obtain ⟨q0, hq0⟩ := s2 hs1
      obtain ⟨o, ho⟩ := impl_lev_bad d q0 key qp large exact
      refine ⟨fun _ _ _ _ _ _ h => absurd h (by simp), fun _ => ⟨2, 0, 0, 0, o, q0, start _ (Ev.bind hq0 (Ev.bind ho ?_))⟩⟩
      simp only [if_true]
      exact Ev.some _
    | some x =>
      obtain ⟨mode, q1⟩ := x
      have r1 := ueR_some hr hp hs1
      obtain ⟨l1, l2⟩ := impl_lev_ev hr key qp large exact q1 r1.2.2.2
      simp only
      cases hl : levR d large exact q1 with
      | none =>
        obtain ⟨o, q0, ho⟩ := l2 hl
        refine ⟨fun _ _ _ _ _ _ h => absurd h (by simp), fun _ => ⟨2, mode, 0, 0, o, q0, start _ (Ev.bind (s1 _ _ hs1) (Ev.bind ho ?_))⟩⟩
        simp only [if_true]
        exact Ev.some _
      | some z =>
        obtain ⟨l, q3⟩ := z
        have okE := impl_SquareOk_ev 2 mode 0 0 l (lev_len hr r1.2.2.2 hl)
        have fin : ∀ b, sqOkB 2 mode 0 0 l = b → Ev (fun k => impl_scan_square.j0 k d p false key qp large exact 2 0 0 0) (2, mode, 0, 0, l, d, (q3 : Int), !b) := by
          intro b hb
          rw [hb] at okE
          refine start _ (Ev.bind (s1 _ _ hs1) (Ev.bind (l1 _ _ hl) ?_))
          simp only [Bool.false_eq_true, if_false]
          exact Ev.bind okE (Ev.some _)
        simp only
        cases hb : sqOkB 2 mode 0 0 l
        · simp only [Bool.false_eq_true, if_false]
          exact ⟨fun _ _ _ _ _ _ h => absurd h (by simp), fun _ => ⟨_, _, _, _, l, _, fin false hb⟩⟩
        · simp only [if_true]
          refine ⟨fun a b c e l' q h => ?_, fun h => absurd h (by simp)⟩
          simp only [Option.some.injEq, Prod.mk.injEq] at h
          obtain ⟨⟨rfl, rfl, rfl, rfl, rfl⟩, rfl⟩ := h
          exact fin true hb
  · have fin : ∀ b, sqOkB kd 0 0 0 [] = b → Ev (fun k => impl_scan_square.j0 k d p false key qp large exact kd 0 0 0) (kd, 0, 0, 0, [], d, (p : Int), !b) := by
      intro b hb
      have okE := impl_SquareOk_ev kd 0 0 0 [] (by simp)
      rw [hb] at okE
      refine st (fun k => by rw [impl_scan_square.j0, if_neg (by decide), if_neg h1, if_neg h2]) ?_
      exact Ev.bind okE (Ev.some _)
    by_cases h0 : kd = 0
    · subst h0
      rw [if_neg (by omega)]
      unfold sqBody
      simp only [if_true]
      refine ⟨fun a b c e l' q h => ?_, fun h => absurd h (by simp)⟩
      simp only [Option.some.injEq, Prod.mk.injEq] at h
      obtain ⟨⟨rfl, rfl, rfl, rfl, rfl⟩, rfl⟩ := h
      exact fin true rfl
    · rw [if_pos (by omega)]
      exact ⟨fun _ _ _ _ _ _ h => absurd h (by simp), fun _ => ⟨_, _, _, _, _, _, fin false (by unfold sqOkB; rw [if_neg h0, if_neg h1, if_neg h2])⟩⟩
theorem impl_sq_ev {d : ByteArray} (hr : RowP d) (key : Bool) (qp : Int) (large exact : Bool) (p : Nat) (hp : p ≤ d.size) : (∀ a b c e l q, sqR d key large exact p = some ((a, b, c, e, l), q) → Ev (fun k => impl_scan_square.f k d p false key qp large exact) (a, b, c, e, l, d, (q : Int), false)) ∧ (sqR d key large exact p = none → ∃ (a b c e : Int) (l : List Int) (q : Int), Ev (fun k => impl_scan_square.f k d p false key qp large exact) (a, b, c, e, l, d, q, true)) := by
  unfold impl_scan_square.f sqR
  cases key
  · simp only [Bool.false_eq_true, if_false]
    obtain ⟨s1, s2⟩ := impl_ue_ev hr p hp
    cases hu : ueR d p with
    | none =>
      obtain ⟨q0, hq0⟩ := s2 hu
      exact ⟨fun _ _ _ _ _ _ h => absurd h (by simp), fun _ => ⟨_, _, _, _, _, _, Ev.bind hq0 (impl_sqBody_bad d q0 false qp large exact 0 0 0 0)⟩⟩
    | some x =>
      obtain ⟨kd, q⟩ := x
      have r := ueR_some hr hp hu
      have bd := impl_sqBody_ev hr false qp large exact kd r.1 q r.2.2.2
      refine ⟨fun a b c e l q' h => Ev.bind (s1 _ _ hu) (bd.1 a b c e l q' h), fun h => ?_⟩
      obtain ⟨a, b, c, e, l, q', hq'⟩ := bd.2 h
      exact ⟨a, b, c, e, l, q', Ev.bind (s1 _ _ hu) hq'⟩
  · simp only [if_true]
    have bd := impl_sqBody_ev hr true qp large exact 2 (by omega) p hp
    simpa using bd
-- a tile that is read
def tileR (d : ByteArray) (key large exact : Bool) : Nat → List S122 → Nat → List S122 × Bool
  | 0, out, p => if p = d.size then (out, true) else ([], false)
  | m + 1, out, p => match sqR d key large exact p with
    | none => ([], false)
    | some (s, q) => tileR d key large exact m (out ++ [⟨s.1, s.2.1, s.2.2.1, s.2.2.2.1, s.2.2.2.2⟩]) q
def condOk (qp : Int) (large exact : Bool) : Bool := decide (0 ≤ qp ∧ qp ≤ 40) && !(large && exact)
theorem spec_CondOk_eq (key : Bool) (qp : Int) (large exact : Bool) : spec_CondOk.f key qp large exact = some (condOk qp large exact) := by
  unfold spec_CondOk.f condOk
  simp only [spec_l01In_eq, Option.bind_some, decide_eq_true_eq]
  by_cases h : 0 ≤ qp ∧ qp ≤ 40
  · cases large <;> cases exact <;> simp [h]
  · simp [h]
theorem impl_CondOk_eq (key : Bool) (qp : Int) (large exact : Bool) : impl_CondOk.f key qp large exact = some (condOk qp large exact) := by
  unfold impl_CondOk.f condOk
  simp only [impl_within_eq, Option.bind_some, decide_eq_true_eq]
  by_cases h : 0 ≤ qp ∧ qp ≤ 40
  · cases large <;> cases exact <;> simp [h]
  · simp [h]
noncomputable def readTile (d : ByteArray) (n : Int) (key : Bool) (qp : Int) (large exact : Bool) : List S122 × Bool := if (rowB d && (condOk qp large exact && decide (1 ≤ n ∧ n ≤ 64))) = true then tileR d key large exact n.toNat [] 0 else ([], false)
theorem spec_tile_loop {d : ByteArray} (hr : RowP d) (key : Bool) (qp : Int) (large exact : Bool) (N : Nat) (hN : N ≤ 64) : ∀ (m i : Nat) (out : List S122) (p : Nat), i + m = N → out.length = i → p ≤ d.size → Ev (fun k => spec_ReadTile.l0 k d p N out i key qp large exact) (tileR d key large exact m out p)
  | 0, i, out, p, hi, hl, hp => by
    refine Ev.step (fun k => by rw [spec_ReadTile.l0, if_neg (by omega)]) ?_
    unfold tileR
    by_cases h : p = d.size
    · rw [if_pos h]
      exact Ev.pos (by omega) (Ev.some _)
    · rw [if_neg h]
      exact Ev.neg (by omega) (Ev.some _)
  | m + 1, i, out, p, hi, hl, hp => by
    refine Ev.step (fun k => by rw [spec_ReadTile.l0, if_pos (by omega), w64 (e := (i : Int) + 1) (by omega) (by omega)]) ?_
    refine Ev.bind (spec_sq_ev hr key qp large exact p hp) ?_
    rw [tileR]
    cases h : sqR d key large exact p with
    | none =>
      simp only [outQ, Bool.false_eq_true, if_false]
      exact Ev.some _
    | some x =>
      obtain ⟨⟨a, b, c, e, l⟩, q⟩ := x
      have r := sqR_some hr hp h
      simp only [outQ, if_true]
      refine Ev.pos (by omega) ?_
      rw [show (i : Int) + 1 = ((i + 1 : Nat) : Int) by omega]
      exact spec_tile_loop hr key qp large exact N hN m (i + 1) _ q (by omega) (by simp [hl]) r
theorem spec_ReadTile_ev (d : ByteArray) (n : Int) (key : Bool) (qp : Int) (large exact : Bool) (hd : d.size ≤ 9223372036854775806) : Ev (fun k => spec_ReadTile.f k d 0 n key qp large exact) (readTile d n key qp large exact) := by
  unfold spec_ReadTile.f readTile
  simp only [Option.bind_some]
  have no : Ev (fun k => spec_ReadTile.j0 k d 0 n [] true key qp large exact) ([], false) := Ev.step (fun k => by rw [spec_ReadTile.j0, if_pos rfl]) (Ev.some _)
  refine Ev.bind (spec_RowOk_ev d hd) ?_
  cases hb : rowB d
  · simpa using no
  · have hr : RowP d := pb_iff.1 hb
    simp only [if_true, spec_l01In_eq, Option.bind_some, decide_eq_true (show (0 : Int) ≤ 0 ∧ (0 : Int) ≤ d.size by omega), spec_CondOk_eq, Bool.true_and]
    cases condOk qp large exact
    · simpa using no
    · simp only [if_true, Bool.true_and]
      by_cases hn : 1 ≤ n ∧ n ≤ 64
      · rw [decide_eq_true hn]
        simp only [Bool.not_true, if_true]
        refine Ev.step (fun k => by rw [spec_ReadTile.j0, if_neg (by decide)]) ?_
        have := spec_tile_loop hr key qp large exact n.toNat (by omega) n.toNat 0 [] 0 (by omega) rfl (by omega)
        rw [show ((n.toNat : Nat) : Int) = n by omega] at this
        exact this
      · rw [decide_eq_false hn]
        simpa using no
theorem impl_tile_loop {d : ByteArray} (hr : RowP d) (key : Bool) (qp : Int) (large exact : Bool) (N : Nat) (hN : N ≤ 64) : ∀ (m i : Nat) (out : List S122) (p : Nat), i + m = N → out.length = i → p ≤ d.size → Ev (fun k => impl_ReadTile.l0 k d out N i key qp large exact d p false) (tileR d key large exact m out p)
  | 0, i, out, p, hi, hl, hp => by
    refine Ev.step (fun k => by rw [impl_ReadTile.l0, if_neg (by omega)]) ?_
    unfold tileR
    by_cases h : p = d.size
    · rw [if_pos h]
      exact Ev.pos (by omega) (Ev.some _)
    · rw [if_neg h]
      exact Ev.neg (by omega) (Ev.some _)
  | m + 1, i, out, p, hi, hl, hp => by
    obtain ⟨s1, s2⟩ := impl_sq_ev hr key qp large exact p hp
    rw [tileR]
    cases h : sqR d key large exact p with
    | none =>
      obtain ⟨a, b, c, e, l, q, hq⟩ := s2 h
      refine Ev.step (fun k => by rw [impl_ReadTile.l0, if_pos (by omega)]) ?_
      refine Ev.bind hq (Ev.pos (by omega) ?_)
      simp only [if_true]
      exact Ev.some _
    | some x =>
      obtain ⟨⟨a, b, c, e, l⟩, q⟩ := x
      have r := sqR_some hr hp h
      refine Ev.step (fun k => by rw [impl_ReadTile.l0, if_pos (by omega), w64 (e := (i : Int) + 1) (by omega) (by omega)]) ?_
      refine Ev.bind (s1 _ _ _ _ _ _ h) (Ev.pos (by omega) ?_)
      simp only [Bool.false_eq_true, if_false]
      rw [show (i : Int) + 1 = ((i + 1 : Nat) : Int) by omega]
      exact impl_tile_loop hr key qp large exact N hN m (i + 1) _ q (by omega) (by simp [hl]) r
theorem impl_ReadTile_ev (d : ByteArray) (n : Int) (key : Bool) (qp : Int) (large exact : Bool) (hd : d.size ≤ 9223372036854775806) : Ev (fun k => impl_ReadTile.f k d 0 n key qp large exact) (readTile d n key qp large exact) := by
  unfold impl_ReadTile.f impl_opened.f readTile
  have no : ∀ b, Ev (fun k => impl_ReadTile.j0 k d n [] true key qp large exact d 0 b) ([], false) := fun b => Ev.step (fun k => by rw [impl_ReadTile.j0, if_pos rfl]) (Ev.some _)
  cases hb : rowB d
  · have op : Ev (fun k => (impl_RowOk.f k d).bind fun t249 => (if t249 = true then ((impl_within.f 0 0 (d.size : Int)).bind fun t250 => (some (d, (0 : Int), !t250))) else (some (d, (0 : Int), true)))) (d, (0 : Int), true) := by
      have e := impl_RowOk_ev d hd
      rw [hb] at e
      refine Ev.bind e ?_
      simp only [Bool.false_eq_true, if_false]
      exact Ev.some _
    refine Ev.bind op ?_
    simp only [Option.bind_some, impl_within_eq, decide_eq_true_eq, impl_CondOk_eq, Bool.false_and, Bool.false_eq_true, if_false]
    refine Ev.ite (fun hn => ?_) (fun _ => no true)
    cases condOk qp large exact
    · exact no true
    · refine Ev.step (fun k => by rw [impl_ReadTile.j0, if_neg (by decide)]) ?_
      obtain ⟨kd, hk⟩ := impl_sq_bad d 0 key qp large exact
      refine Ev.step (fun k => by rw [impl_ReadTile.l0, if_pos (by omega)]) ?_
      refine Ev.bind hk ?_
      simp only [List.length_nil, if_pos (show 0 < 2513169434916 by omega), if_true]
      exact Ev.some _
  · have hr : RowP d := pb_iff.1 hb
    have op : Ev (fun k => (impl_RowOk.f k d).bind fun t249 => (if t249 = true then ((impl_within.f 0 0 (d.size : Int)).bind fun t250 => (some (d, (0 : Int), !t250))) else (some (d, (0 : Int), true)))) (d, (0 : Int), false) := by
      have e := impl_RowOk_ev d hd
      rw [hb] at e
      refine Ev.bind e ?_
      simp only [if_true, impl_within_eq, Option.bind_some, decide_eq_true (show (0 : Int) ≤ 0 ∧ (0 : Int) ≤ d.size by omega)]
      exact Ev.some _
    refine Ev.bind op ?_
    simp only [Option.bind_some, impl_within_eq, decide_eq_true_eq, impl_CondOk_eq, Bool.true_and]
    by_cases hn : 1 ≤ n ∧ n ≤ 64
    · simp only [if_pos hn, decide_eq_true hn, Bool.and_true]
      cases condOk qp large exact
      · simpa using no false
      · simp only [Bool.not_true, if_true]
        refine Ev.step (fun k => by rw [impl_ReadTile.j0, if_neg (by decide)]) ?_
        have := impl_tile_loop hr key qp large exact n.toNat (by omega) n.toNat 0 [] 0 (by omega) rfl (by omega)
        rw [show ((n.toNat : Nat) : Int) = n by omega] at this
        exact this
    · simp only [if_neg hn, decide_eq_false hn, Bool.and_false, Bool.false_eq_true, if_false]
      exact no false
-- LAW FnExactPartOk
theorem FnExactPartOk (a0_0 : Int) (a0_1 a0_2 a0_3 : Bool) (a1_0 : Bool) (a1_1 : Int) (a1_2 : ByteArray) (a2 : Int) (y1_2 : a1_2.size ≤ maxLen) :
    ∃ k, laws_FnExactPartOk.f k a0_0 a0_1 a0_2 a0_3 a1_0 a1_1 a1_2 a2 = some true := by
  refine Ev.rounds (g := fun k => laws_FnExactPartOk.f k a0_0 a0_1 a0_2 a0_3 a1_0 a1_1 a1_2 a2) ?_
  simp only [maxLen] at y1_2
  unfold laws_FnExactPartOk.f laws_szPart.f laws_toPar.f laws_toPart.f
  rw [w64 (by omega) (by omega)]
  by_cases h0 : 1048576 - (a1_2.size : Int) < 0
  · simp only [if_pos h0, Option.bind_some]
    exact Ev.pos (by omega) (Ev.some _)
  simp only [if_neg h0, Option.bind_some]
  have e1 : Ev (fun k => spec_PartOk.f k a0_0 a0_1 a0_2 a0_3 a1_0 a1_1 a1_2 a2) (parOk a0_0 a0_1 a0_2 && (readTile a1_2 a2 a1_0 a1_1 a0_1 a0_2).2) := by
    unfold spec_PartOk.f spec_CondFor.f
    simp only [Option.bind_some]
    refine Ev.bind (spec_ReadTile_ev a1_2 a2 a1_0 a1_1 a0_1 a0_2 (by omega)) ?_
    simp only [spec_ParOk_eq, Option.bind_some]
    refine Ev.const ?_
    cases parOk a0_0 a0_1 a0_2 <;> rfl
  have e2 : Ev (fun k => impl_PartOk.f k a0_0 a0_1 a0_2 a0_3 a1_0 a1_1 a1_2 a2) (parOk a0_0 a0_1 a0_2 && (readTile a1_2 a2 a1_0 a1_1 a0_1 a0_2).2) := by
    unfold impl_PartOk.f impl_CondFor.f
    simp only [Option.bind_some]
    refine Ev.bind (impl_ReadTile_ev a1_2 a2 a1_0 a1_1 a0_1 a0_2 (by omega)) ?_
    simp only [impl_ParOk_eq, Option.bind_some]
    refine Ev.const ?_
    cases (readTile a1_2 a2 a1_0 a1_1 a0_1 a0_2).2 <;> cases parOk a0_0 a0_1 a0_2 <;> rfl
  refine Ev.bind e1 (Ev.bind e2 ?_)
  simp only [bne_self_eq_false, Bool.false_eq_true, if_false]
  exact Ev.some _

end Go.Proofs.Ytlfbcmhjopichaa.Pure
