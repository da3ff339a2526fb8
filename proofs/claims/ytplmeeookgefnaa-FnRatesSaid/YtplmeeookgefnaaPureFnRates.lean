/- The pure statement of the law FnRates: over numbers, texts and lists alone, what the law computes is true. Conditions: the sizes of what a machine holds. -/
import Derived.Test.YtplmeeookgefnaaDFnRates
namespace Go.Proofs.Ytplmeeookgefnaa.Pure
open Go Go.Proofs Go.Proofs.YtplmeeookgefnaaAL Go.RowKit Go.Proofs.Ytplmeeookgefnaa.A
set_option linter.unusedVariables false
set_option linter.unusedSimpArgs false
set_option maxHeartbeats 1000000
-- words: steps of a pure function
theorem bnd_s {α β : Type} (a : α) (f : α → Option β) : bnd (some a) f = f a := rfl
theorem bnd_e {α β : Type} {x : Option α} {a : α} {f : α → Option β} (h : x = some a) : bnd x f = f a := by subst h; rfl
theorem sel_t {β : Type} (x y : β) : sel true x y = x := rfl
theorem sel_f {β : Type} (x y : β) : sel false x y = y := rfl
theorem sel_n {β : Type} (b : Bool) (x y : β) : sel (!b) x y = sel b y x := by cases b <;> rfl
theorem sel_and (b x : Bool) : sel b (some x) (some false) = some (b && x) := by cases b <;> rfl
theorem sel_or (b x : Bool) : sel b (some true) (some x) = some (b || x) := by cases b <;> rfl
theorem sel_nor (b x : Bool) : sel b (some x) (some true) = some (!b || x) := by cases b <;> rfl
theorem sel_nand (b x : Bool) : sel b (some false) (some x) = some (!b && x) := by cases b <;> rfl
theorem sel_same {β : Type} (b : Bool) (x : β) : sel b x x = x := by cases b <;> rfl
theorem sel_ss {β : Type} (b : Bool) (x y : β) : sel b (some x) (some y) = some (sel b x y) := by cases b <;> rfl
theorem sel_ite {β : Type} (b : Bool) (x y : β) : sel b x y = if b = true then x else y := by cases b <;> rfl
theorem sel_d {β : Type} (p : Prop) [Decidable p] (x y : β) : sel (decide p) x y = if p then x else y := by
  by_cases h : p <;> simp [h, sel]
theorem sel_pos {β : Type} {b : Bool} {x y : β} (h : b = true) : sel b x y = x := by subst h; rfl
theorem sel_neg {β : Type} {b : Bool} {x y : β} (h : b = false) : sel b x y = y := by subst h; rfl
theorem sel_yes {β : Type} {p : Prop} [Decidable p] {x y : β} (h : p) : sel (decide p) x y = x := by simp [h, sel]
theorem sel_no {β : Type} {p : Prop} [Decidable p] {x y : β} (h : ¬ p) : sel (decide p) x y = y := by simp [h, sel]
theorem req_p {β : Type} {c : Prop} [Decidable c] {k : Option β} (h : c) : req c k = k := if_pos h
theorem wk {e : Int} (h1 : -9223372036854775808 ≤ e) (h2 : e ≤ 9223372036854775807) : wrapK .i64 e = e := by
  show wrap64 e = e
  unfold wrap64; omega
theorem wk_wf (e : Int) : -9223372036854775808 ≤ wrapK .i64 e ∧ wrapK .i64 e ≤ 9223372036854775807 := by
  show -9223372036854775808 ≤ wrap64 e ∧ wrap64 e ≤ 9223372036854775807
  unfold wrap64; omega
theorem w8 {e : Int} (h1 : 0 ≤ e) (h2 : e ≤ 255) : wrapK .u8 e = e := by
  show IntKind.wrap .u8 e = e
  simp [IntKind.wrap, IntKind.signed, IntKind.bits]; omega
theorem wf64 {n : Int} (h : (Lit.int .i64 n).wf = true) : -9223372036854775808 ≤ n ∧ n ≤ 9223372036854775807 := by
  simp [Lit.wf, IntKind.min, IntKind.max, IntKind.signed, IntKind.bits] at h
  omega
theorem wf8 {n : Int} (h : (Lit.int .u8 n).wf = true) : 0 ≤ n ∧ n ≤ 255 := by
  simp [Lit.wf, IntKind.min, IntKind.max, IntKind.signed, IntKind.bits] at h
  omega
theorem maxLen_eq : maxLen = 9223372036854775807 := rfl
theorem tmod_pos {a b : Int} (h : 0 ≤ a) : Int.tmod a b = a % b := Int.tmod_eq_emod_of_nonneg h
theorem tdiv_pos {a b : Int} (h : 0 ≤ a) : Int.tdiv a b = a / b := Int.tdiv_eq_ediv_of_nonneg h
theorem down_to {P : Nat → Prop} (n : Nat) (h0 : P n) (hs : ∀ i, i < n → P (i + 1) → P i) : ∀ i, i ≤ n → P i := by
  intro i hi
  obtain ⟨k, rfl⟩ : ∃ k, n = i + k := ⟨n - i, by omega⟩
  clear hi
  induction k generalizing i with
  | zero => exact h0
  | succ k ih =>
    refine hs i (by omega) ?_
    exact ih (i + 1) (by rw [show i + 1 + k = i + (k + 1) by omega]; exact h0) (fun j hj => hs j (by omega))
theorem lgo {V O : Type} {f : V → Option (Lp V O)} {x y : V} {r : Option O} (h : f x = some (.go y)) (k : loop f y = r) : loop f x = r := by rw [loop_go h]; exact k
theorem ldone {V O : Type} {f : V → Option (Lp V O)} {x : V} {o : O} (h : f x = some (.done o)) : loop f x = some o := loop_done h
/-- Rounds with something that stays and something that goes down. -/
theorem loop_inv {V O : Type} {f : V → Option (Lp V O)} (I : V → Prop) (m : V → Nat) (Q : V → O → Prop) (h : ∀ v, I v → (∃ o, f v = some (.done o) ∧ Q v o) ∨ ∃ v', f v = some (.go v') ∧ I v' ∧ m v' < m v ∧ ∀ o, Q v' o → Q v o) : ∀ v, I v → ∃ o, loop f v = some o ∧ Q v o := by
  intro v
  generalize hn : m v = n
  induction n using Nat.strongRecOn generalizing v with
  | _ n ih =>
    intro hv
    rcases h v hv with ⟨o, h1, h2⟩ | ⟨v', h1, h2, h3, h4⟩
    · exact ⟨o, loop_done h1, h2⟩
    · obtain ⟨o, h5, h6⟩ := ih (m v') (by omega) v' rfl h2
      exact ⟨o, by rw [loop_go h1]; exact h5, h4 o h6⟩
/-- A count up to a length: what the rounds from i on come to. -/
theorem loop_up {V O S : Type} {f : V → Option (Lp V O)} (n : Nat) (st : S → Nat → V) (R : S → Nat → O) (h0 : ∀ s, f (st s n) = some (.done (R s n)))
    (hs : ∀ s i, i < n → f (st s i) = some (.done (R s i)) ∨ ∃ s', f (st s i) = some (.go (st s' (i + 1))) ∧ R s i = R s' (i + 1)) : ∀ i, i ≤ n → ∀ s, loop f (st s i) = some (R s i) := by
  refine down_to n (fun s => loop_done (h0 s)) ?_
  intro i hi ih s
  rcases hs s i hi with h | ⟨s', h, e⟩
  · exact loop_done h
  · rw [loop_go h, ih s', e]
-- words: rows
theorem getD_at {α : Type} (l : List α) (i : Nat) (h : i < l.length) (d : α) : l.getD i d = l[i] := by
  simp [List.getD_eq_getElem?_getD, List.getElem?_eq_getElem h]
theorem drop_at {α : Type} (l : List α) (i : Nat) (h : i < l.length) (d : α) : l.drop i = l.getD i d :: l.drop (i + 1) := by
  rw [List.drop_eq_getElem_cons h, getD_at l i h]
theorem take_at {α : Type} (l : List α) (i : Nat) (h : i < l.length) (d : α) : l.take (i + 1) = l.take i ++ [l.getD i d] := by
  rw [List.take_succ_eq_append_getElem h, getD_at l i h]
-- within
theorem impl_within_eq (a b c : Int) : impl_within a b c = some (decide (b ≤ a ∧ a ≤ c)) := by
  unfold impl_within
  by_cases h : b ≤ a <;> simp [bnd, sel, h]
-- a byte's mask
theorem and_255 (y : Int) : 0 ≤ IntKind.wrap .i64 (BitVec.ofInt (IntKind.bits .i64) y &&& BitVec.ofInt (IntKind.bits .i64) 255).toNat ∧ IntKind.wrap .i64 (BitVec.ofInt (IntKind.bits .i64) y &&& BitVec.ofInt (IntKind.bits .i64) 255).toNat ≤ 255 := by
  have h : (BitVec.ofInt (IntKind.bits .i64) y &&& BitVec.ofInt (IntKind.bits .i64) 255).toNat ≤ 255 := by
    rw [BitVec.toNat_and]
    exact Nat.le_trans Nat.and_le_right (by decide)
  generalize (BitVec.ofInt (IntKind.bits .i64) y &&& BitVec.ofInt (IntKind.bits .i64) 255).toNat = n at h ⊢
  rw [← wrapK_eq, wk (by omega) (by omega)]
  omega
-- draws: cursors
def curOk (c : L01Cur) : Prop := c.b_.length ≤ 1048576 ∧ 0 ≤ c.i_
-- draws: l01New
theorem spec_l01New_ev (b : List Int) (hb : b.length ≤ 1048576) : ∃ c, spec_l01New b = some c ∧ curOk c := by
  unfold spec_l01New
  obtain ⟨o, h, _⟩ := loop_inv (f := spec_l01New_l2 b) (fun v => 0 ≤ v.2) (fun v => b.length - v.2.toNat) (fun _ _ => True) (by
    intro ⟨h, i⟩ hi
    unfold spec_l01New_l2
    simp only [sel_and, bnd_s] at hi ⊢
    by_cases h1 : i < b.length ∧ i < 4000
    · rw [sel_pos (by simp; exact h1), req_p ⟨hi, h1.1⟩]
      refine .inr ⟨_, rfl, ?_, ?_, fun _ _ => trivial⟩
      · simp only; rw [wk (by omega) (by omega)]; omega
      · simp only; rw [wk (by omega) (by omega)]; omega
    · rw [sel_neg (by simp; omega)]
      exact .inl ⟨_, rfl, trivial⟩) (wrapK .i64 (94701 + (b.length : Int)), 0) (by simp)
  rw [h]
  exact ⟨_, rfl, hb, by simp⟩
-- draws: l01Byte
theorem spec_l01Byte_ev (c : L01Cur) (hc : curOk c) : ∃ x c', spec_l01Byte c = some (x, c') ∧ 0 ≤ x ∧ x ≤ 255 ∧ curOk c' := by
  unfold spec_l01Byte
  rw [req_p (by decide), req_p (by decide)]
  obtain ⟨h1, h2⟩ := hc
  by_cases h : c.i_ < c.b_.length
  · rw [sel_yes h, req_p ⟨h2, h⟩, bnd_s]
    refine ⟨_, _, rfl, (and_255 _).1, (and_255 _).2, h1, ?_⟩
    simp only; rw [wk (by omega) (by omega)]; omega
  · rw [sel_no h, bnd_s]
    exact ⟨_, _, rfl, (and_255 _).1, (and_255 _).2, h1, h2⟩
-- draws: l01Below
theorem spec_l01Below_ev (c : L01Cur) (n : Int) (hc : curOk c) : ∃ x c', spec_l01Below c n = some (x, c') ∧ 0 ≤ x ∧ (0 < n → x < n) ∧ (n ≤ 0 → x = 0) ∧ curOk c' := by
  unfold spec_l01Below
  by_cases h0 : n ≤ 0
  · rw [sel_yes h0]; exact ⟨_, _, rfl, by omega, fun h => by omega, fun _ => rfl, hc⟩
  · rw [sel_no h0]
    obtain ⟨x, c1, e1, a1, b1, hc1⟩ := spec_l01Byte_ev c hc
    by_cases h1 : n ≤ 256
    · rw [sel_yes h1, e1, bnd_s, req_p (by omega)]
      refine ⟨_, _, rfl, ?_, fun _ => ?_, fun h => by omega, hc1⟩
      · simp only; rw [tmod_pos a1]; exact Int.emod_nonneg _ (by omega)
      · simp only; rw [tmod_pos a1]; exact Int.emod_lt_of_pos _ (by omega)
    · obtain ⟨y, c2, e2, a2, b2, hc2⟩ := spec_l01Byte_ev c1 hc1
      obtain ⟨z, c3, e3, a3, b3, hc3⟩ := spec_l01Byte_ev c2 hc2
      obtain ⟨u, c4, e4, a4, b4, hc4⟩ := spec_l01Byte_ev c3 hc3
      rw [sel_no h1, e1, bnd_s]
      simp only
      rw [e2, bnd_s]
      simp only
      rw [e3, bnd_s]
      simp only
      rw [e4, bnd_s, req_p (by omega)]
      simp only
      rw [wk (e := x * 16777216) (by omega) (by omega), wk (e := y * 65536) (by omega) (by omega), wk (e := z * 256) (by omega) (by omega), wk (e := x * 16777216 + y * 65536) (by omega) (by omega), wk (e := x * 16777216 + y * 65536 + z * 256) (by omega) (by omega), wk (by omega) (by omega), tmod_pos (by omega)]
      exact ⟨_, _, rfl, Int.emod_nonneg _ (by omega), fun _ => Int.emod_lt_of_pos _ (by omega), fun h => by omega, hc4⟩
-- big
theorem laws_big_eq (l : List Int) : laws_big l = some (decide ((l.length : Int) > 1048576)) := rfl
-- draws: DrawPlaces
theorem spec_DrawPlaces_ev (b : List Int) (hb : b.length ≤ 1048576) : ∃ l, spec_DrawPlaces b = some l ∧ l.length = 12 ∧ ∀ x ∈ l, 0 ≤ x ∧ x < 10000 := by
  unfold spec_DrawPlaces
  obtain ⟨c, e, hc⟩ := spec_l01New_ev b hb
  obtain ⟨x, c1, e1, _, _, hc1⟩ := spec_l01Byte_ev c hc
  rw [e, bnd_s, e1, bnd_s]
  obtain ⟨o, h, h2⟩ := loop_inv (f := spec_DrawPlaces_l2) (fun v => 0 ≤ v.1 ∧ v.1 ≤ 12 ∧ curOk ⟨v.2.1, v.2.2.1, v.2.2.2.1⟩ ∧ (v.2.2.2.2.length : Int) = v.1 ∧ ∀ x ∈ v.2.2.2.2, 0 ≤ x ∧ x < 10000) (fun v => 12 - v.1.toNat) (fun _ o => o.length = 12 ∧ ∀ x ∈ o, 0 ≤ x ∧ x < 10000) (by
    intro ⟨i, b, j, h, l⟩ ⟨h1, h2, h3, h4, h5⟩
    unfold spec_DrawPlaces_l2
    simp only at h1 h2 h3 h4 h5 ⊢
    by_cases hi : i < 12
    · obtain ⟨x, c', ex, x0, x1, _, hx⟩ := spec_l01Below_ev _ 10000 h3
      rw [sel_yes hi, ex, bnd_s, req_p (by rw [maxLen_eq]; simp only [List.length_singleton]; omega)]
      refine .inr ⟨_, rfl, ?_, ?_, fun _ h => h⟩
      · rw [wk (by omega) (by omega)]
        refine ⟨by omega, by omega, hx, by simp; omega, ?_⟩
        intro y hy
        rcases List.mem_append.1 hy with hy | hy
        · exact h5 y hy
        · rw [List.mem_singleton.1 hy]; exact ⟨x0, x1 (by omega)⟩
      · rw [wk (by omega) (by omega)]; omega
    · rw [sel_no hi]
      exact .inl ⟨_, rfl, by omega, h5⟩) (0, c1.b_, c1.i_, c1.h_, []) ⟨by simp, by simp, hc1, by simp, by simp⟩
  rw [h]
  exact ⟨_, rfl, h2⟩
-- Brought value
def brought (n a b : Int) : Int := if b < a ∨ n < a then a else if n > b then b else n
-- Brought impl
theorem impl_Brought_eq (n a b : Int) : impl_Brought n a b = some (brought n a b) := by
  unfold impl_Brought brought
  congr 1
  repeat' split
  all_goals omega
-- RateOk value
def rateOk (r : Rate) : Bool := decide (0 ≤ r.Qp ∧ r.Qp ≤ 40 ∧ 1 ≤ r.Target ∧ r.Target ≤ 100000 ∧ -8 * r.Target ≤ r.Debt ∧ r.Debt ≤ 8 * r.Target)
theorem rateOk_iff (r : Rate) : rateOk r = true ↔ 0 ≤ r.Qp ∧ r.Qp ≤ 40 ∧ 1 ≤ r.Target ∧ r.Target ≤ 100000 ∧ -8 * r.Target ≤ r.Debt ∧ r.Debt ≤ 8 * r.Target := by simp [rateOk]
-- RateOk impl
theorem impl_RateOk_eq (r : Rate) : impl_RateOk r = some (rateOk r) := by
  unfold impl_RateOk rateOk
  simp only [impl_within_eq, bnd_s]
  by_cases h1 : 0 ≤ r.Qp ∧ r.Qp ≤ 40
  · rw [sel_yes h1]
    by_cases h2 : 1 ≤ r.Target ∧ r.Target ≤ 100000
    · rw [sel_yes h2, wk (by omega) (by omega), wk (by omega) (by omega), bnd_s]
      simp only [h1.1, h1.2, h2.1, h2.2, true_and]
    · rw [sel_no h2, bnd_s]; congr 1; symm; rw [decide_eq_false_iff_not]; exact fun h => h2 ⟨h.2.2.1, h.2.2.2.1⟩
  · rw [sel_no h1, bnd_s]; congr 1; symm; rw [decide_eq_false_iff_not]; exact fun h => h1 ⟨h.1, h.2.1⟩
-- RateNext value
def rateDebt (r : Rate) (n : Int) : Int := brought (r.Debt + brought n 0 400000 - r.Target) (-8 * r.Target) (8 * r.Target)
def rateNext (r : Rate) (n : Int) : Rate :=
  if rateOk r = true then ⟨brought (if rateDebt r n > r.Target then r.Qp + 1 else if rateDebt r n < -r.Target then r.Qp - 1 else r.Qp) 0 40, r.Target, rateDebt r n⟩ else r
theorem brought_in {n a b : Int} (h : a ≤ b) : a ≤ brought n a b ∧ brought n a b ≤ b := by
  unfold brought
  repeat' split
  all_goals omega
-- RateNext impl
theorem impl_RateNext_eq (r : Rate) (n : Int) : impl_RateNext r n = some (rateNext r n) := by
  unfold impl_RateNext rateNext
  rw [impl_RateOk_eq, bnd_s]
  by_cases h : rateOk r = true
  · rw [if_pos h, sel_neg (by rw [h]; rfl)]
    have h' := (rateOk_iff r).1 h
    have hb := brought_in (n := n) (a := 0) (b := 400000) (by omega)
    simp only [impl_Brought_eq, bnd_s]
    rw [wk (e := r.Debt + brought n 0 400000) (by omega) (by omega), wk (e := r.Debt + brought n 0 400000 - r.Target) (by omega) (by omega), wk (e := -8 * r.Target) (by omega) (by omega), wk (e := 8 * r.Target) (by omega) (by omega)]
    have hd := brought_in (n := r.Debt + brought n 0 400000 - r.Target) (a := -8 * r.Target) (b := 8 * r.Target) (by omega)
    have ed : brought (r.Debt + brought n 0 400000 - r.Target) (-8 * r.Target) (8 * r.Target) = rateDebt r n := rfl
    rw [ed]
    have hd' : -8 * r.Target ≤ rateDebt r n ∧ rateDebt r n ≤ 8 * r.Target := hd
    rw [wk (e := r.Qp + 1) (by omega) (by omega), wk (e := r.Qp - 1) (by omega) (by omega), wk (e := 0 - r.Target) (by omega) (by omega)]
    simp only [sel_d]
    by_cases h1 : rateDebt r n > r.Target
    · rw [if_pos h1, if_pos h1, bnd_s]
    · rw [if_neg h1, if_neg h1]
      by_cases h2 : rateDebt r n < -r.Target
      · rw [if_pos h2, if_pos (show rateDebt r n < 0 - r.Target by omega), bnd_s]
      · rw [if_neg h2, if_neg (show ¬ rateDebt r n < 0 - r.Target by omega), bnd_s]
  · rw [if_neg h, sel_pos (by simpa using h)]
theorem rateNext_ok (r : Rate) (n : Int) (h : rateOk r = true) : rateOk (rateNext r n) = true := by
  unfold rateNext
  rw [if_pos h]
  have h' := (rateOk_iff r).1 h
  rw [rateOk_iff]
  have hd : -8 * r.Target ≤ rateDebt r n ∧ rateDebt r n ≤ 8 * r.Target := brought_in (by omega)
  have hq := brought_in (n := (if rateDebt r n > r.Target then r.Qp + 1 else if rateDebt r n < -r.Target then r.Qp - 1 else r.Qp)) (a := 0) (b := 40) (by omega)
  simp only
  omega
theorem rateNext_target (r : Rate) (n : Int) : (rateNext r n).Target = r.Target := by unfold rateNext; split <;> rfl
-- RateRun value
def rateRun (r : Rate) (l : List Int) : Rate := if l.length > 1000 then r else l.foldl rateNext r
theorem foldl_rate_ok : ∀ (l : List Int) (r : Rate), rateOk r = true → rateOk (l.foldl rateNext r) = true
  | [], r, h => h
  | n :: l, r, h => foldl_rate_ok l (rateNext r n) (rateNext_ok r n h)
theorem foldl_rate_target : ∀ (l : List Int) (r : Rate), (l.foldl rateNext r).Target = r.Target
  | [], r => rfl
  | n :: l, r => by rw [List.foldl_cons, foldl_rate_target l, rateNext_target]
-- RateRun impl
theorem impl_RateRun_eq (r : Rate) (l : List Int) : impl_RateRun r l = some (rateRun r l) := by
  unfold impl_RateRun rateRun
  by_cases h : l.length > 1000
  · rw [sel_yes (by omega), if_pos h]
  · rw [sel_no (by omega), if_neg h]
    have key := loop_up (f := impl_RateRun_l2 l) l.length (fun (r : Rate) i => ((i : Int), r.Qp, r.Target, r.Debt)) (fun r i => (((l.drop i).foldl rateNext r).Qp, ((l.drop i).foldl rateNext r).Target, ((l.drop i).foldl rateNext r).Debt)) (by
      intro s
      unfold impl_RateRun_l2
      rw [sel_no (by omega), List.drop_eq_nil_of_le (Nat.le_refl _)]; rfl) (by
      intro s i hi
      right
      refine ⟨rateNext s (l.getD i 0), ?_, by rw [drop_at l i hi 0]; rfl⟩
      unfold impl_RateRun_l2
      rw [sel_yes (by omega), req_p (by omega), impl_RateNext_eq, bnd_s, wk (by omega) (by omega)]
      rfl) 0 (by omega) r
    simp only [List.drop_zero] at key
    rw [show ((0 : Int), r.Qp, r.Target, r.Debt) = (((0 : Nat) : Int), r.Qp, r.Target, r.Debt) from rfl, key]
    rfl
-- QpFor value
def qpFor (r : Rate) (key : Bool) : Int := if rateOk r = true then (if key = true then brought (r.Qp - 2) 0 40 else r.Qp) else 0
-- QpFor impl
theorem impl_QpFor_eq (r : Rate) (key : Bool) : impl_QpFor r key = some (qpFor r key) := by
  unfold impl_QpFor qpFor
  rw [impl_RateOk_eq, bnd_s, sel_n]
  by_cases h : rateOk r = true
  · rw [if_pos h, sel_pos h]
    have h' := (rateOk_iff r).1 h
    rw [wk (by omega) (by omega)]
    cases key
    · rfl
    · rw [sel_t, if_pos rfl]; congr 1; unfold brought; repeat' split
      all_goals omega
  · rw [if_neg h, sel_neg (by simpa using h)]
-- draws: l18Right
theorem spec_l18Right_ev (c : L01Cur) (hc : curOk c) : ∃ r c', spec_l18Right c = some (r, c') ∧ rateOk r = true ∧ curOk c' := by
  unfold spec_l18Right
  obtain ⟨x, c1, e1, a1, b1, _, h1⟩ := spec_l01Below_ev c 2000 hc
  rw [e1, bnd_s]
  obtain ⟨y, c2, e2, a2, b2, _, h2⟩ := spec_l01Below_ev c1 41 h1
  simp only
  rw [e2, bnd_s]
  have b1' := b1 (by omega)
  have b2' := b2 (by omega)
  rw [wk (e := 1 + x) (by omega) (by omega), wk (e := 16 * (1 + x)) (by omega) (by omega), wk (e := 16 * (1 + x) + 1) (by omega) (by omega)]
  obtain ⟨z, c3, e3, a3, b3, _, h3⟩ := spec_l01Below_ev c2 (16 * (1 + x) + 1) h2
  have b3' := b3 (by omega)
  simp only
  rw [e3, bnd_s, wk (e := 8 * (1 + x)) (by omega) (by omega), wk (by omega) (by omega)]
  refine ⟨_, _, rfl, ?_, h3⟩
  rw [rateOk_iff]
  simp only
  omega
-- draws: DrawRate
theorem spec_DrawRate_ev (b : List Int) (hb : b.length ≤ 1048576) : ∃ r l, spec_DrawRate b = some (r, l) ∧ rateOk r = true ∧ l.length ≤ 13 := by
  unfold spec_DrawRate
  obtain ⟨c, e, hc⟩ := spec_l01New_ev b hb
  obtain ⟨r, c1, e1, hr, hc1⟩ := spec_l18Right_ev c hc
  rw [e, bnd_s, e1, bnd_s]
  obtain ⟨o, h, h2⟩ := loop_inv (f := spec_DrawRate_l2) (fun v => 0 ≤ v.1 ∧ v.1 ≤ 13 ∧ curOk ⟨v.2.1, v.2.2.1, v.2.2.2.1⟩ ∧ (v.2.2.2.2.length : Int) = v.1) (fun v => 13 - v.1.toNat) (fun _ o => o.length ≤ 13) (by
    intro ⟨i, b, j, h, l⟩ ⟨h1, h2, h3, h4⟩
    unfold spec_DrawRate_l2
    simp only at h1 h2 h3 h4 ⊢
    obtain ⟨x, c', ex, x0, x1, _, hx⟩ := spec_l01Below_ev _ 12 h3
    have x1' := x1 (by omega)
    rw [ex, bnd_s]
    simp only
    rw [wk (e := 2 + x) (by omega) (by omega)]
    by_cases hi : i < 2 + x
    · obtain ⟨y, c2, ey, y0, y1, _, hy⟩ := spec_l01Below_ev _ 5000 hx
      rw [sel_yes hi, ey, bnd_s, req_p (by rw [maxLen_eq]; simp only [List.length_singleton]; omega)]
      refine .inr ⟨_, rfl, ?_, ?_, fun _ h => h⟩
      · rw [wk (by omega) (by omega)]
        exact ⟨by omega, by omega, hy, by simp; omega⟩
      · rw [wk (by omega) (by omega)]; omega
    · rw [sel_no hi]
      exact .inl ⟨_, rfl, by omega⟩) (0, c1.b_, c1.i_, c1.h_, []) ⟨by simp, by simp, hc1, by simp⟩
  simp only
  rw [h, bnd_s]
  exact ⟨_, _, rfl, hr, h2⟩
-- LAW FnRates
theorem rateDebt_mono (r : Rate) (m n : Int) (h : m ≤ n) (hr : rateOk r = true) : rateDebt r m ≤ rateDebt r n := by
  have h' := (rateOk_iff r).1 hr
  unfold rateDebt
  have hb : brought m 0 400000 ≤ brought n 0 400000 := by
    unfold brought; repeat' split
    all_goals omega
  unfold brought at hb ⊢
  repeat' split
  all_goals omega
theorem FnRates {p0 : List Int} (h0 : p0.length ≤ maxLen ∧ ∀ y ∈ p0, (Lit.int .u8 y).wf = true) : laws_FnRates p0 = some true := by
  unfold laws_FnRates
  rw [laws_big_eq, bnd_s]
  by_cases hb : (p0.length : Int) > 1048576
  · rw [sel_yes hb]
  rw [sel_no hb]
  obtain ⟨r, l, e1, hr, hl⟩ := spec_DrawRate_ev p0 (by omega)
  obtain ⟨p, e2, hp, hp2⟩ := spec_DrawPlaces_ev p0 (by omega)
  have h' := (rateOk_iff r).1 hr
  rw [e1, bnd_s, e2, bnd_s]
  have g : ∀ i, i < 12 → 0 ≤ p.getD i 0 ∧ p.getD i 0 < 10000 := fun i hi => by rw [getD_at p i (by omega)]; exact hp2 _ (List.getElem_mem _)
  have g0 := g 0 (by omega)
  have g1 := g 1 (by omega)
  have g2 := g 2 (by omega)
  simp only [List.length_nil, List.nil_append, Int.toNat_zero, List.drop_zero, Nat.zero_add, Nat.sub_zero, Int.toNat_one, show (2 : Int).toNat = 2 from rfl, Int.toNat_natCast]
  rw [wk (e := (l.length : Int) + 1) (by omega) (by omega), tmod_pos g0.1]
  obtain ⟨k, hk, hkl⟩ : ∃ k : Nat, p.getD 0 0 % ((l.length : Int) + 1) = k ∧ k ≤ l.length := by
    have a := Int.emod_nonneg (p.getD 0 0) (b := (l.length : Int) + 1) (by omega)
    have c := Int.emod_lt_of_pos (p.getD 0 0) (b := (l.length : Int) + 1) (by omega)
    exact ⟨(p.getD 0 0 % ((l.length : Int) + 1)).toNat, by omega, by omega⟩
  rw [hk]
  have hm : maxLen = 9223372036854775807 := rfl
  rw [req_p (by omega), req_p (by omega), req_p (by omega), req_p (by omega), impl_RateRun_eq, bnd_s, req_p (by omega), req_p (by simp only [Int.toNat_natCast, List.length_take]; omega), impl_RateRun_eq, bnd_s, req_p (by omega),
    req_p (by simp only [Int.toNat_natCast, List.length_take, List.length_drop]; omega), impl_RateRun_eq, bnd_s, req_p (by omega), req_p (by omega), impl_RateNext_eq, bnd_s, req_p (by omega), req_p (by omega), req_p (by omega), req_p (by omega),
    wk (e := p.getD 1 0 + p.getD 2 0) (by omega) (by omega), impl_RateNext_eq, bnd_s]
  have er : ∀ (r : Rate) (m : List Int), m.length ≤ 13 → rateRun r m = m.foldl rateNext r := fun r m h => by unfold rateRun; rw [if_neg (by omega)]
  have e3 : rateRun (rateRun r (l.take k)) ((l.drop k).take (l.length - k)) = rateRun r l := by
    rw [er r l hl, er r (l.take k) (by rw [List.length_take]; omega), er _ _ (by rw [List.length_take, List.length_drop]; omega), ← List.foldl_append, List.take_of_length_le (l := l.drop k) (by rw [List.length_drop]; omega), List.take_append_drop]
  rw [Int.toNat_natCast, e3]
  have ok1 : rateOk (rateRun r l) = true := by rw [er r l hl]; exact foldl_rate_ok l r hr
  have tg : (rateRun r l).Target = r.Target := by rw [er r l hl]; exact foldl_rate_target l r
  have dm := rateDebt_mono r (p.getD 1 0) (p.getD 1 0 + p.getD 2 0) (by omega) hr
  have q : ∀ n, (rateNext r n).Qp = brought (if rateDebt r n > r.Target then r.Qp + 1 else if rateDebt r n < -r.Target then r.Qp - 1 else r.Qp) 0 40 ∧ (rateNext r n).Debt = rateDebt r n := fun n => by unfold rateNext; rw [if_pos hr]; exact ⟨rfl, rfl⟩
  simp only [impl_RateOk_eq, impl_QpFor_eq, bnd_s, hr, ok1, sel_t, tg]
  have q1 := q (p.getD 1 0)
  have q2 := q (p.getD 1 0 + p.getD 2 0)
  have s1 : (rateNext r (p.getD 1 0)).Qp - r.Qp ≥ -1 ∧ (rateNext r (p.getD 1 0)).Qp - r.Qp ≤ 1 ∧ 0 ≤ (rateNext r (p.getD 1 0)).Qp ∧ (rateNext r (p.getD 1 0)).Qp ≤ 40 := by
    rw [q1.1]; unfold brought; repeat' split
    all_goals omega
  have s2 : (rateNext r (p.getD 1 0 + p.getD 2 0)).Qp ≥ (rateNext r (p.getD 1 0)).Qp := by
    rw [q1.1, q2.1]; unfold brought; repeat' split
    all_goals omega
  have s3 : (rateNext r (p.getD 1 0 + p.getD 2 0)).Debt ≥ (rateNext r (p.getD 1 0)).Debt := by rw [q1.2, q2.2]; exact dm
  have s4 : qpFor r false = r.Qp := by unfold qpFor; rw [if_pos hr]; rfl
  have s5 : qpFor r true ≤ r.Qp ∧ qpFor r true ≥ r.Qp - 2 := by
    unfold qpFor; rw [if_pos hr, if_pos rfl]; unfold brought; repeat' split
    all_goals omega
  rw [wk (by omega) (by omega), wk (by omega) (by omega)]
  simp only [beq_self_eq_true, Bool.and_self, sel_t, bnd_s, s4]
  rw [sel_yes s1.1, sel_yes s1.2.1, sel_yes s3, sel_yes s2, sel_yes s5.1, bnd_s]
  simp only [s5.2, decide_true]
end Go.Proofs.Ytplmeeookgefnaa.Pure
