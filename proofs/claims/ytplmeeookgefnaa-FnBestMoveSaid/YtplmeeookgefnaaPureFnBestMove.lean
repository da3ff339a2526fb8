/- The pure statement of the law FnBestMove: over numbers, texts and lists alone, what the law computes is true. Conditions: the sizes of what a machine holds. -/
import Derived.Test.YtplmeeookgefnaaDFnBestMove
namespace Go.Proofs.Ytplmeeookgefnaa.A.Pure
open Go Go.Proofs Go.Proofs.YtplmeeookgefnaaAL Go.RowKit
set_option linter.unusedVariables false
set_option linter.unusedSimpArgs false
set_option maxHeartbeats 1000000
theorem bnd_s {α β : Type} (a : α) (f : α → Option β) : bnd (some a) f = f a := rfl
theorem bnd_e {α β : Type} {x : Option α} {a : α} {f : α → Option β} (h : x = some a) : bnd x f = f a := by subst h; rfl
theorem sel_t {β : Type} (x y : β) : sel true x y = x := rfl
theorem sel_f {β : Type} (x y : β) : sel false x y = y := rfl
theorem sel_n {β : Type} (b : Bool) (x y : β) : sel (!b) x y = sel b y x := by cases b <;> rfl
theorem sel_and (b x : Bool) : sel b (some x) (some false) = some (b && x) := by cases b <;> rfl
theorem sel_or (b x : Bool) : sel b (some true) (some x) = some (b || x) := by cases b <;> rfl
theorem sel_d {β : Type} (p : Prop) [Decidable p] (x y : β) : sel (decide p) x y = if p then x else y := by
  by_cases h : p <;> simp [h, sel]
theorem sel_pos {β : Type} {b : Bool} {x y : β} (h : b = true) : sel b x y = x := by subst h; rfl
theorem sel_neg {β : Type} {b : Bool} {x y : β} (h : b = false) : sel b x y = y := by subst h; rfl
theorem sel_yes {β : Type} {p : Prop} [Decidable p] {x y : β} (h : p) : sel (decide p) x y = x := by simp [h, sel]
theorem sel_no {β : Type} {p : Prop} [Decidable p] {x y : β} (h : ¬ p) : sel (decide p) x y = y := by simp [h, sel]
theorem req_p {β : Type} {c : Prop} [Decidable c] {k : Option β} (h : c) : req c k = k := if_pos h
theorem wk {e : Int} (h1 : -9223372036854775808 ≤ e) (h2 : e ≤ 9223372036854775807) : wrapK .i64 e = e := by
  show wrap64 e = e
  unfold wrap64; omega
theorem w8 {e : Int} (h1 : 0 ≤ e) (h2 : e ≤ 255) : wrapK .u8 e = e := by
  show IntKind.wrap .u8 e = e
  simp [IntKind.wrap, IntKind.signed, IntKind.bits]; omega
theorem maxLen_eq : maxLen = 9223372036854775807 := rfl
theorem tmod_pos {a b : Int} (h : 0 ≤ a) : Int.tmod a b = a % b := Int.tmod_eq_emod_of_nonneg h
theorem tdiv_pos {a b : Int} (h : 0 ≤ a) : Int.tdiv a b = a / b := Int.tdiv_eq_ediv_of_nonneg h
theorem down_to {P : Nat → Prop} (n : Nat) (h0 : P n) (hs : ∀ i, i < n → P (i + 1) → P i) : ∀ i, i ≤ n → P i := by
  intro i hi
  obtain ⟨k, rfl⟩ : ∃ k, n = i + k := ⟨n - i, by omega⟩
  clear hi
  induction k generalizing i with
  | zero => exact h0
  | succ k ih =>
    refine hs i (by omega) ?_
    exact ih (i + 1) (by rw [show i + 1 + k = i + (k + 1) by omega]; exact h0) (fun j hj => hs j (by omega))
theorem lgo {V O : Type} {f : V → Option (Lp V O)} {x y : V} {r : Option O} (h : f x = some (.go y)) (k : loop f y = r) : loop f x = r := by rw [loop_go h]; exact k
theorem ldone {V O : Type} {f : V → Option (Lp V O)} {x : V} {o : O} (h : f x = some (.done o)) : loop f x = some o := loop_done h
theorem loop_inv {V O : Type} {f : V → Option (Lp V O)} (I : V → Prop) (m : V → Nat) (Q : V → O → Prop) (h : ∀ v, I v → (∃ o, f v = some (.done o) ∧ Q v o) ∨ ∃ v', f v = some (.go v') ∧ I v' ∧ m v' < m v ∧ ∀ o, Q v' o → Q v o) : ∀ v, I v → ∃ o, loop f v = some o ∧ Q v o := by
  intro v
  generalize hn : m v = n
  induction n using Nat.strongRecOn generalizing v with
  | _ n ih =>
    intro hv
    rcases h v hv with ⟨o, h1, h2⟩ | ⟨v', h1, h2, h3, h4⟩
    · exact ⟨o, loop_done h1, h2⟩
    · obtain ⟨o, h5, h6⟩ := ih (m v') (by omega) v' rfl h2
      exact ⟨o, by rw [loop_go h1]; exact h5, h4 o h6⟩
theorem getD_at {α : Type} (l : List α) (i : Nat) (h : i < l.length) (d : α) : l.getD i d = l[i] := by
  simp [List.getD_eq_getElem?_getD, List.getElem?_eq_getElem h]
theorem impl_within_eq (a b c : Int) : impl_within a b c = some (decide (b ≤ a ∧ a ≤ c)) := by
  unfold impl_within
  by_cases h : b ≤ a <;> simp [bnd, sel, h]
theorem spec_l01In_eq (a b c : Int) : spec_l01In a b c = some (decide (b ≤ a ∧ a ≤ c)) := by
  unfold spec_l01In
  by_cases h : b ≤ a <;> simp [bnd, sel, h]
theorem set_mid {α : Type} (a : List α) (x y : α) (b : List α) : (a ++ x :: b).set a.length y = a ++ y :: b := by
  induction a with
  | nil => rfl
  | cons z a ih => simp only [List.cons_append, List.length_cons, List.set_cons_succ, ih]
theorem getD_mid {α : Type} (a : List α) (x d : α) (b : List α) : (a ++ x :: b).getD a.length d = x := by
  induction a with
  | nil => rfl
  | cons z a ih => simp
theorem and_255 (y : Int) : 0 ≤ IntKind.wrap .i64 (BitVec.ofInt (IntKind.bits .i64) y &&& BitVec.ofInt (IntKind.bits .i64) 255).toNat ∧ IntKind.wrap .i64 (BitVec.ofInt (IntKind.bits .i64) y &&& BitVec.ofInt (IntKind.bits .i64) 255).toNat ≤ 255 := by
  have h : (BitVec.ofInt (IntKind.bits .i64) y &&& BitVec.ofInt (IntKind.bits .i64) 255).toNat ≤ 255 := by
    rw [BitVec.toNat_and]
    exact Nat.le_trans Nat.and_le_right (by decide)
  generalize (BitVec.ofInt (IntKind.bits .i64) y &&& BitVec.ofInt (IntKind.bits .i64) 255).toNat = n at h ⊢
  rw [← wrapK_eq, wk (by omega) (by omega)]
  omega
def curOk (c : L01Cur) : Prop := c.b_.length ≤ 1048576 ∧ 0 ≤ c.i_
theorem spec_l01New_ev (b : List Int) (hb : b.length ≤ 1048576) : ∃ c, spec_l01New b = some c ∧ curOk c := by
  unfold spec_l01New
  obtain ⟨o, h, _⟩ := loop_inv (f := spec_l01New_l2 b) (fun v => 0 ≤ v.2) (fun v => b.length - v.2.toNat) (fun _ _ => True) (by
    intro ⟨h, i⟩ hi
    unfold spec_l01New_l2
    simp only [sel_and, bnd_s] at hi ⊢
    by_cases h1 : i < b.length ∧ i < 4000
    · rw [sel_pos (by simp; exact h1), req_p ⟨hi, h1.1⟩]
      refine .inr ⟨_, rfl, ?_, ?_, fun _ _ => trivial⟩
      · simp only; rw [wk (by omega) (by omega)]; omega
      · simp only; rw [wk (by omega) (by omega)]; omega
    · rw [sel_neg (by simp; omega)]
      exact .inl ⟨_, rfl, trivial⟩) (wrapK .i64 (94701 + (b.length : Int)), 0) (by simp)
  rw [h]
  exact ⟨_, rfl, hb, by simp⟩
theorem spec_l01Byte_ev (c : L01Cur) (hc : curOk c) : ∃ x c', spec_l01Byte c = some (x, c') ∧ 0 ≤ x ∧ x ≤ 255 ∧ curOk c' := by
  unfold spec_l01Byte
  rw [req_p (by decide), req_p (by decide)]
  obtain ⟨h1, h2⟩ := hc
  by_cases h : c.i_ < c.b_.length
  · rw [sel_yes h, req_p ⟨h2, h⟩, bnd_s]
    refine ⟨_, _, rfl, (and_255 _).1, (and_255 _).2, h1, ?_⟩
    simp only; rw [wk (by omega) (by omega)]; omega
  · rw [sel_no h, bnd_s]
    exact ⟨_, _, rfl, (and_255 _).1, (and_255 _).2, h1, h2⟩
theorem spec_l01Below_ev (c : L01Cur) (n : Int) (hc : curOk c) : ∃ x c', spec_l01Below c n = some (x, c') ∧ 0 ≤ x ∧ (0 < n → x < n) ∧ (n ≤ 0 → x = 0) ∧ curOk c' := by
  unfold spec_l01Below
  by_cases h0 : n ≤ 0
  · rw [sel_yes h0]; exact ⟨_, _, rfl, by omega, fun h => by omega, fun _ => rfl, hc⟩
  · rw [sel_no h0]
    obtain ⟨x, c1, e1, a1, b1, hc1⟩ := spec_l01Byte_ev c hc
    by_cases h1 : n ≤ 256
    · rw [sel_yes h1, e1, bnd_s, req_p (by omega)]
      refine ⟨_, _, rfl, ?_, fun _ => ?_, fun h => by omega, hc1⟩
      · simp only; rw [tmod_pos a1]; exact Int.emod_nonneg _ (by omega)
      · simp only; rw [tmod_pos a1]; exact Int.emod_lt_of_pos _ (by omega)
    · obtain ⟨y, c2, e2, a2, b2, hc2⟩ := spec_l01Byte_ev c1 hc1
      obtain ⟨z, c3, e3, a3, b3, hc3⟩ := spec_l01Byte_ev c2 hc2
      obtain ⟨u, c4, e4, a4, b4, hc4⟩ := spec_l01Byte_ev c3 hc3
      rw [sel_no h1, e1, bnd_s]
      simp only
      rw [e2, bnd_s]
      simp only
      rw [e3, bnd_s]
      simp only
      rw [e4, bnd_s, req_p (by omega)]
      simp only
      rw [wk (e := x * 16777216) (by omega) (by omega), wk (e := y * 65536) (by omega) (by omega), wk (e := z * 256) (by omega) (by omega), wk (e := x * 16777216 + y * 65536) (by omega) (by omega), wk (e := x * 16777216 + y * 65536 + z * 256) (by omega) (by omega), wk (by omega) (by omega), tmod_pos (by omega)]
      exact ⟨_, _, rfl, Int.emod_nonneg _ (by omega), fun _ => Int.emod_lt_of_pos _ (by omega), fun h => by omega, hc4⟩
theorem spec_l01Once_ev (c : L01Cur) (n : Int) (hc : curOk c) : ∃ x c', spec_l01Once c n = some (x, c') ∧ curOk c' := by
  unfold spec_l01Once
  obtain ⟨x, c', e, _, _, _, h⟩ := spec_l01Below_ev c n hc
  rw [e, bnd_s]; exact ⟨_, _, rfl, h⟩
theorem laws_big_eq (l : List Int) : laws_big l = some (decide ((l.length : Int) > 1048576)) := rfl
theorem spec_DrawPlaces_ev (b : List Int) (hb : b.length ≤ 1048576) : ∃ l, spec_DrawPlaces b = some l ∧ l.length = 12 ∧ ∀ x ∈ l, 0 ≤ x ∧ x < 10000 := by
  unfold spec_DrawPlaces
  obtain ⟨c, e, hc⟩ := spec_l01New_ev b hb
  obtain ⟨x, c1, e1, _, _, hc1⟩ := spec_l01Byte_ev c hc
  rw [e, bnd_s, e1, bnd_s]
  obtain ⟨o, h, h2⟩ := loop_inv (f := spec_DrawPlaces_l2) (fun v => 0 ≤ v.1 ∧ v.1 ≤ 12 ∧ curOk ⟨v.2.1, v.2.2.1, v.2.2.2.1⟩ ∧ (v.2.2.2.2.length : Int) = v.1 ∧ ∀ x ∈ v.2.2.2.2, 0 ≤ x ∧ x < 10000) (fun v => 12 - v.1.toNat) (fun _ o => o.length = 12 ∧ ∀ x ∈ o, 0 ≤ x ∧ x < 10000) (by
    intro ⟨i, b, j, h, l⟩ ⟨h1, h2, h3, h4, h5⟩
    unfold spec_DrawPlaces_l2
    simp only at h1 h2 h3 h4 h5 ⊢
    by_cases hi : i < 12
    · obtain ⟨x, c', ex, x0, x1, _, hx⟩ := spec_l01Below_ev _ 10000 h3
      rw [sel_yes hi, ex, bnd_s, req_p (by rw [maxLen_eq]; simp only [List.length_singleton]; omega)]
      refine .inr ⟨_, rfl, ?_, ?_, fun _ h => h⟩
      · rw [wk (by omega) (by omega)]
        refine ⟨by omega, by omega, hx, by simp; omega, ?_⟩
        intro y hy
        rcases List.mem_append.1 hy with hy | hy
        · exact h5 y hy
        · rw [List.mem_singleton.1 hy]; exact ⟨x0, x1 (by omega)⟩
      · rw [wk (by omega) (by omega)]; omega
    · rw [sel_no hi]
      exact .inl ⟨_, rfl, by omega, h5⟩) (0, c1.b_, c1.i_, c1.h_, []) ⟨by simp, by simp, hc1, by simp, by simp⟩
  rw [h]
  exact ⟨_, rfl, h2⟩
def brought (n a b : Int) : Int := if b < a ∨ n < a then a else if n > b then b else n
theorem impl_Brought_eq (n a b : Int) : impl_Brought n a b = some (brought n a b) := by
  unfold impl_Brought brought
  congr 1
  repeat' split
  all_goals omega
theorem brought_in {n a b : Int} (h : a ≤ b) : a ≤ brought n a b ∧ brought n a b ≤ b := by
  unfold brought
  repeat' split
  all_goals omega
theorem spec_Brought_eq (n a b : Int) : spec_Brought n a b = some (brought n a b) := by
  unfold spec_Brought brought
  rw [sel_or, bnd_s]
  by_cases h : b < a ∨ n < a
  · rw [if_pos h, sel_pos (by simpa using h)]
  · rw [if_neg h, sel_neg (by simp; omega), sel_d]; split <;> rfl
def picOk (p : Pic) : Bool := decide (1 ≤ p.Wide ∧ p.Wide ≤ 256) && (decide (1 ≤ p.High ∧ p.High ≤ 256) && ((p.Dots.size : Int) == p.Wide * p.High))
theorem area_small {w h : Int} (h1 : 1 ≤ w ∧ w ≤ 256) (h2 : 1 ≤ h ∧ h ≤ 256) : 1 ≤ w * h ∧ w * h ≤ 65536 := by
  have a : w * 1 ≤ w * h := Int.mul_le_mul_of_nonneg_left h2.1 (by omega)
  have b : w * h ≤ 256 * h := Int.mul_le_mul_of_nonneg_right h1.2 (by omega)
  omega
theorem spec_PicOk_eq (p : Pic) : spec_PicOk p = some (picOk p) := by
  unfold spec_PicOk picOk
  simp only [spec_l01In_eq, bnd_s, sel_and]
  by_cases h1 : 1 ≤ p.Wide ∧ p.Wide ≤ 256
  · by_cases h2 : 1 ≤ p.High ∧ p.High ≤ 256
    · have := area_small h1 h2
      rw [wk (by omega) (by omega)]
    · rw [decide_eq_false h2, Bool.false_and, Bool.false_and]
  · rw [decide_eq_false h1, Bool.false_and, Bool.false_and]
theorem impl_PicOk_eq (p : Pic) : impl_PicOk p = some (picOk p) := by
  unfold impl_PicOk picOk
  simp only [impl_within_eq, bnd_s, sel_and]
  by_cases h1 : 1 ≤ p.Wide ∧ p.Wide ≤ 256
  · by_cases h2 : 1 ≤ p.High ∧ p.High ≤ 256
    · have := area_small h1 h2
      rw [wk (by omega) (by omega)]
    · rw [decide_eq_false h2, Bool.false_and, Bool.false_and]
  · rw [decide_eq_false h1, Bool.false_and, Bool.false_and]
theorem and_1 (y : Int) : IntKind.wrap .i64 (BitVec.ofInt (IntKind.bits .i64) y &&& BitVec.ofInt (IntKind.bits .i64) 1).toNat = y % 2 := by
  have h : (BitVec.ofInt 64 y &&& BitVec.ofInt 64 1).toNat = (y % 2).toNat := by
    rw [BitVec.toNat_and]
    have e1 : (BitVec.ofInt 64 1).toNat = 1 := by decide
    rw [e1, Nat.and_one_is_mod, BitVec.toNat_ofInt]
    omega
  show IntKind.wrap .i64 ((BitVec.ofInt 64 y &&& BitVec.ofInt 64 1).toNat : Int) = _
  rw [h, ← wrapK_eq, wk (by omega) (by omega)]
  omega
def fixL : Nat → Int → List Int
  | 0, _ => []
  | w + 1, n => fixL w (n / 2) ++ [48 + n % 2]
theorem signs_loop (w : Nat) : ∀ (k : Nat) (n : Int) (s : List Int), 0 ≤ n → n ≤ 9223372036854775807 → k + s.length ≤ 100000 → loop impl_signs_l2 (n, (k : Int) - 1, List.replicate k 0 ++ s) = some (fixL k n ++ s) := by
  intro k
  induction k with
  | zero =>
    intro n s h0 h1 hl
    refine ldone ?_
    unfold impl_signs_l2
    simp only
    rw [sel_no (by omega)]
    simp [fixL]
  | succ k ih =>
    intro n s h0 h1 hl
    have e1 : List.replicate (k + 1) (0 : Int) ++ s = List.replicate k 0 ++ 0 :: s := by rw [List.replicate_succ', List.append_assoc]; rfl
    have e2 := set_mid (List.replicate k (0 : Int)) 0 (48 + n % 2) s
    rw [List.length_replicate] at e2
    refine lgo (y := (n / 2, (k : Int) - 1, List.replicate k 0 ++ (48 + n % 2) :: s)) ?_ ?_
    · unfold impl_signs_l2
      have e3 : (((k + 1 : Nat) : Int) - 1).toNat = k := by omega
      simp only [e1, e3]
      rw [sel_yes (by omega), req_p (by simp; omega), req_p (by simp), req_p (by decide), and_1, wk (e := 48 + n % 2) (by omega) (by omega), w8 (by omega) (by omega), e2, wk (by omega) (by omega)]
      rw [show ((k + 1 : Nat) : Int) - 1 - 1 = (k : Int) - 1 by omega]
      rfl
    · rw [ih (n / 2) ((48 + n % 2) :: s) (by omega) (by omega) (by simp; omega), fixL, List.append_assoc]; rfl
theorem impl_signs_eq (n : Int) (w : Nat) (h0 : 0 ≤ n) (h1 : n ≤ 9223372036854775807) (hw : w ≤ 1000) : impl_signs n (w : Int) = some (strOfNums (fixL w n)) := by
  unfold impl_signs
  rw [req_p (by omega), wk (by omega) (by omega), Int.toNat_natCast]
  have := signs_loop w w n [] h0 h1 (by simp; omega)
  rw [List.append_nil, List.append_nil] at this
  rw [this, bnd_s]
def figs (m : Nat) : Nat := if h : m = 0 then 0 else figs (m / 2) + 1
termination_by m
decreasing_by omega
def binL (m : Nat) : List Int := if h : m = 0 then [] else binL (m / 2) ++ [48 + ((m % 2 : Nat) : Int)]
termination_by m
decreasing_by omega
theorem binL_len (m : Nat) : (binL m).length = figs m := by
  induction m using Nat.strongRecOn with
  | _ m ih =>
    rw [binL, figs]
    by_cases h : m = 0
    · rw [dif_pos h, dif_pos h]; rfl
    · rw [dif_neg h, dif_neg h, List.length_append, ih (m / 2) (by omega)]; rfl
theorem figs_le {m j : Nat} (h : m < 2 ^ j) : figs m ≤ j := by
  induction j generalizing m with
  | zero => rw [figs, dif_pos (by simp at h; omega)]; omega
  | succ j ih =>
    rw [figs]
    split
    · omega
    · have := ih (m := m / 2) (by rw [Nat.pow_succ] at h; omega)
      omega
theorem figs_pos {m : Nat} (h : 0 < m) : 1 ≤ figs m := by rw [figs, dif_neg (by omega)]; omega
theorem fixL_bin (z m : Nat) : fixL (figs m + z) m = List.replicate z 48 ++ binL m := by
  induction m using Nat.strongRecOn with
  | _ m ih =>
    rw [binL, figs]
    by_cases h : m = 0
    · rw [dif_pos h, dif_pos h, h, List.append_nil, Nat.zero_add]
      clear ih h
      induction z with
      | zero => rfl
      | succ z iz => rw [fixL, show ((0 : Nat) : Int) / 2 = ((0 : Nat) : Int) from rfl, iz, List.replicate_succ']; rfl
    · rw [dif_neg h, dif_neg h, show figs (m / 2) + 1 + z = figs (m / 2) + z + 1 by omega, fixL, show (m : Int) / 2 = ((m / 2 : Nat) : Int) by omega, ih (m / 2) (by omega), List.append_assoc, show (m : Int) % 2 = ((m % 2 : Nat) : Int) by omega]
def ueL (n : Nat) : List Int := List.replicate (figs (n + 1) - 1) 48 ++ binL (n + 1)
theorem ueL_len (n : Nat) (h : n ≤ 1000000) : (ueL n).length ≤ 39 ∧ 1 ≤ (ueL n).length := by
  unfold ueL
  rw [List.length_append, List.length_replicate, binL_len]
  have := figs_le (m := n + 1) (j := 20) (by omega)
  have := figs_pos (m := n + 1) (by omega)
  omega
theorem figuresOf_loop : ∀ (m : Nat) (k : Int), 0 ≤ k → k ≤ 1000 → m ≤ 9223372036854775807 → loop impl_figuresOf_l2 ((m : Int), k) = some (k + figs m) := by
  have main : ∀ (j m : Nat) (k : Int), m < 2 ^ j → j ≤ 63 → 0 ≤ k → k + j ≤ 2000 → loop impl_figuresOf_l2 ((m : Int), k) = some (k + figs m) := by
    intro j
    induction j with
    | zero =>
      intro m k hm _ _ _
      have : m = 0 := by simp at hm; omega
      subst this
      refine ldone ?_
      unfold impl_figuresOf_l2
      simp only
      rw [sel_no (by omega), figs, dif_pos rfl]; simp
    | succ j ih =>
      intro m k hm hj h0 h1
      by_cases h : m = 0
      · subst h
        refine ldone ?_
        unfold impl_figuresOf_l2
        simp only
        rw [sel_no (by omega), figs, dif_pos rfl]; simp
      · refine lgo (y := (((m / 2 : Nat) : Int), k + 1)) ?_ ?_
        · unfold impl_figuresOf_l2
          simp only
          rw [sel_yes (by omega), req_p (by decide), wk (by omega) (by omega)]
          show some (Lp.go ((m : Int) / 2, k + 1)) = _
          congr 3
        · rw [ih (m / 2) (k + 1) (by rw [Nat.pow_succ] at hm; omega) (by omega) (by omega) (by omega), figs.eq_def m, dif_neg h]
          congr 1; omega
  intro m k h0 h1 hm
  exact main 63 m k (by omega) (by omega) h0 (by omega)
theorem impl_ue_eq (n : Nat) (h : n ≤ 1000000) : impl_ue (n : Int) = some (strOfNums (ueL n)) := by
  unfold impl_ue impl_figuresOf
  rw [wk (e := (n : Int) + 1) (by omega) (by omega)]
  have := figuresOf_loop (n + 1) 0 (by omega) (by omega) (by omega)
  rw [show ((n + 1 : Nat) : Int) = (n : Int) + 1 by omega, Int.zero_add] at this
  rw [this, bnd_s, bnd_s]
  have h1 := figs_le (m := n + 1) (j := 20) (by omega)
  have h2 := figs_pos (m := n + 1) (by omega)
  rw [wk (e := 2 * (figs (n + 1) : Int)) (by omega) (by omega), wk (by omega) (by omega), show 2 * (figs (n + 1) : Int) - 1 = ((figs (n + 1) + (figs (n + 1) - 1) : Nat) : Int) by omega, impl_signs_eq _ _ (by omega) (by omega) (by omega), bnd_s,
    show (n : Int) + 1 = ((n + 1 : Nat) : Int) by omega, fixL_bin]
  rfl
def foldN (n : Int) : Nat := if n > 0 then (2 * n - 1).toNat else (-2 * n).toNat
theorem impl_FoldSe_eq (n : Int) (h : -500000 ≤ n ∧ n ≤ 500000) : impl_FoldSe n = some ((foldN n : Int), true) := by
  unfold impl_FoldSe foldN
  rw [impl_within_eq, bnd_s, sel_n, sel_yes h, sel_d, wk (e := 2 * n) (by omega) (by omega), wk (by omega) (by omega), wk (by omega) (by omega)]
  split
  · rw [Int.toNat_of_nonneg (by omega)]
  · rw [Int.toNat_of_nonneg (by omega)]
theorem foldN_le (n : Int) (h : -500000 ≤ n ∧ n ≤ 500000) : foldN n ≤ 1000000 := by unfold foldN; split <;> omega
def seL (n : Int) : List Int := ueL (foldN n)
theorem impl_SeRow_eq (n : Int) (h : -500000 ≤ n ∧ n ≤ 500000) : impl_SeRow n = some (strOfNums (seL n), true) := by
  have := foldN_le n h
  unfold impl_SeRow
  rw [impl_FoldSe_eq n h, bnd_s, sel_n, sel_t]
  unfold impl_UeRow
  rw [impl_within_eq, bnd_s, sel_n, sel_yes (by omega), impl_ue_eq _ this, bnd_s, bnd_s]; rfl
theorem all_loop (p : Int → Bool) (l : List Int) (f : Int → Option (Lp Int (Ou Unit Bool))) (h : ∀ i : Nat, i < l.length → f (i : Int) = sel (!(p (l.getD i 0))) (some (.done (.ret false))) (some (.go ((i + 1 : Nat) : Int)))) (h0 : f (l.length : Int) = some (.done (.out ()))) :
    loop f 0 = some (if l.all p = true then .out () else .ret false) := by
  have key : ∀ (r a : List Int), l = a ++ r → loop f (a.length : Int) = some (if r.all p = true then .out () else .ret false) := by
    intro r
    induction r with
    | nil => intro a ha; rw [List.append_nil] at ha; rw [← ha, loop_done h0]; rfl
    | cons x r ih =>
      intro a ha
      have hlen : a.length < l.length := by rw [ha]; simp
      have hx : l.getD a.length 0 = x := by rw [ha]; exact getD_mid a x _ r
      have hs := h a.length hlen
      rw [hx] at hs
      cases e : p x with
      | true =>
        rw [e] at hs
        have := ih (a ++ [x]) (by rw [ha]; simp)
        rw [List.length_append, List.length_singleton] at this
        rw [loop_go hs, this, List.all_cons, e, Bool.true_and]
      | false => rw [e] at hs; rw [loop_done hs, List.all_cons, e, Bool.false_and]; rfl
  exact key l [] rfl
theorem impl_areIn_eq (l : List Int) (n lo hi : Int) (hl : l.length ≤ 9223372036854775806) : impl_areIn l n lo hi = some (l.all (fun x => decide (lo ≤ x ∧ x ≤ hi)) && ((l.length : Int) == n)) := by
  unfold impl_areIn
  rw [all_loop (fun x => decide (lo ≤ x ∧ x ≤ hi)) l (impl_areIn_l2 l lo hi) (by
      intro i hi
      unfold impl_areIn_l2
      rw [sel_yes (by omega), req_p (by omega), impl_within_eq, bnd_s, wk (by omega) (by omega), Int.toNat_natCast]
      rfl) (by unfold impl_areIn_l2; rw [sel_no (by omega)]), bnd_s]
  cases l.all (fun x => decide (lo ≤ x ∧ x ≤ hi)) <;> rfl
theorem bt_range (b : ByteArray) (i : Int) : 0 ≤ btOf b i ∧ btOf b i ≤ 255 := by
  unfold btOf
  split
  · rename_i h
    have := (b[i.toNat]'h).toNat_lt
    omega
  · omega
theorem picOk_parts {p : Pic} (h : picOk p = true) : (1 ≤ p.Wide ∧ p.Wide ≤ 256) ∧ (1 ≤ p.High ∧ p.High ≤ 256) ∧ (p.Dots.size : Int) = p.Wide * p.High := by
  unfold picOk at h
  simp only [Bool.and_eq_true, decide_eq_true_eq, beq_iff_eq] at h
  exact ⟨h.1, h.2.1, h.2.2⟩
theorem picOk_of {p : Pic} (h1 : 1 ≤ p.Wide ∧ p.Wide ≤ 256) (h2 : 1 ≤ p.High ∧ p.High ≤ 256) (h3 : (p.Dots.size : Int) = p.Wide * p.High) : picOk p = true := by
  unfold picOk
  simp only [Bool.and_eq_true, decide_eq_true_eq, beq_iff_eq]
  exact ⟨h1, h2, h3⟩
def dotAt (p : Pic) (x y : Int) : Int := btOf p.Dots (brought y 0 (p.High - 1) * p.Wide + brought x 0 (p.Wide - 1))
theorem dotAt_range (p : Pic) (x y : Int) : 0 ≤ dotAt p x y ∧ dotAt p x y ≤ 255 := bt_range _ _
theorem dot_place {p : Pic} (ok : picOk p = true) (x y : Int) : 0 ≤ brought y 0 (p.High - 1) * p.Wide + brought x 0 (p.Wide - 1) ∧ brought y 0 (p.High - 1) * p.Wide + brought x 0 (p.Wide - 1) < p.Dots.size ∧ 0 ≤ brought y 0 (p.High - 1) * p.Wide ∧ brought y 0 (p.High - 1) * p.Wide ≤ 65536 := by
  obtain ⟨h1, h2, h3⟩ := picOk_parts ok
  have b1 := brought_in (n := y) (a := 0) (b := p.High - 1) (by omega)
  have b2 := brought_in (n := x) (a := 0) (b := p.Wide - 1) (by omega)
  have m1 := Int.mul_nonneg b1.1 (show 0 ≤ p.Wide by omega)
  have m2 := Int.mul_le_mul_of_nonneg_right b1.2 (show 0 ≤ p.Wide by omega)
  have m3 : (p.High - 1) * p.Wide = p.Wide * p.High - p.Wide := by rw [Int.sub_mul, Int.one_mul, Int.mul_comm]
  have m4 := (area_small h1 h2).2
  omega
theorem impl_dot_eq {p : Pic} (ok : picOk p = true) (x y : Int) : impl_Pic_dot p x y = some (dotAt p x y) := by
  obtain ⟨h1, h2, h3⟩ := picOk_parts ok
  unfold impl_Pic_dot dotAt
  rw [impl_Brought_eq, bnd_s, impl_Brought_eq, bnd_s, wk (e := p.High - 1) (by omega) (by omega), wk (e := p.Wide - 1) (by omega) (by omega)]
  obtain ⟨p1, p2, p3, p4⟩ := dot_place ok x y
  have b2 := brought_in (n := x) (a := 0) (b := p.Wide - 1) (by omega)
  have br := bt_range p.Dots (brought y 0 (p.High - 1) * p.Wide + brought x 0 (p.Wide - 1))
  rw [wk (e := brought y 0 (p.High - 1) * p.Wide) (by omega) (by omega), wk (e := brought y 0 (p.High - 1) * p.Wide + brought x 0 (p.Wide - 1)) (by omega) (by omega), req_p ⟨p1, p2⟩, wk (by omega) (by omega)]
theorem spec_DotAt_eq {p : Pic} (ok : picOk p = true) (x y : Int) : spec_DotAt p x y = some (dotAt p x y) := by
  obtain ⟨h1, h2, h3⟩ := picOk_parts ok
  unfold spec_DotAt dotAt
  rw [spec_PicOk_eq, bnd_s, ok, Bool.not_true, sel_f, spec_Brought_eq, bnd_s, spec_Brought_eq, bnd_s, wk (e := p.High - 1) (by omega) (by omega), wk (e := p.Wide - 1) (by omega) (by omega)]
  obtain ⟨p1, p2, p3, p4⟩ := dot_place ok x y
  have b2 := brought_in (n := x) (a := 0) (b := p.Wide - 1) (by omega)
  have br := bt_range p.Dots (brought y 0 (p.High - 1) * p.Wide + brought x 0 (p.Wide - 1))
  rw [wk (e := brought y 0 (p.High - 1) * p.Wide) (by omega) (by omega), wk (e := brought y 0 (p.High - 1) * p.Wide + brought x 0 (p.Wide - 1)) (by omega) (by omega), req_p ⟨p1, p2⟩, wk (by omega) (by omega)]
def blkAt (p : Pic) (x y : Int) (i : Nat) : Int := dotAt p (x + ((i % 8 : Nat) : Int)) (y + ((i / 8 : Nat) : Int))
def blkL (p : Pic) (x y : Int) (n : Nat) : List Int := (List.range n).map (blkAt p x y)
theorem blkL_succ (p : Pic) (x y : Int) (n : Nat) : blkL p x y (n + 1) = blkL p x y n ++ [blkAt p x y n] := by simp [blkL, List.range_succ]
theorem blkL_length (p : Pic) (x y : Int) (n : Nat) : (blkL p x y n).length = n := by simp [blkL]
def dotIn (x : Int) : Bool := decide (0 ≤ x ∧ x ≤ 255)
def dots64 (l : List Int) : Bool := decide (l.length = 64) && l.all dotIn
theorem dots64_at {l : List Int} (h : dots64 l = true) : l.length = 64 ∧ ∀ i : Nat, i < 64 → 0 ≤ l.getD i 0 ∧ l.getD i 0 ≤ 255 := by
  simp only [dots64, Bool.and_eq_true, decide_eq_true_eq] at h
  refine ⟨h.1, fun i hi => ?_⟩
  have := List.all_eq_true.1 h.2 (l.getD i 0) (by rw [getD_at l i (by omega)]; exact List.getElem_mem _)
  simpa [dotIn] using this
theorem blkL_dots (p : Pic) (x y : Int) : dots64 (blkL p x y 64) = true := by
  simp only [dots64, blkL_length, decide_true, Bool.true_and, List.all_eq_true]
  intro z hz
  obtain ⟨i, _, rfl⟩ := List.mem_map.1 hz
  simp only [dotIn, decide_eq_true_eq]
  exact dotAt_range _ _ _
theorem spec_BlockOf_eq {p : Pic} (ok : picOk p = true) (x y : Int) (hx : -1000 ≤ x ∧ x ≤ 1000) (hy : -1000 ≤ y ∧ y ≤ 1000) : spec_BlockOf p x y = some (blkL p x y 64) := by
  have hm : maxLen = 9223372036854775807 := rfl
  unfold spec_BlockOf
  rw [spec_PicOk_eq, bnd_s, ok, sel_t, spec_l01In_eq, bnd_s, sel_yes (by omega), spec_l01In_eq, bnd_s, bnd_s, decide_eq_true (by omega), Bool.not_true, sel_f]
  have key : ∀ i : Nat, i ≤ 64 → loop (spec_BlockOf_l2 p x y) ((i : Int), blkL p x y i) = some (blkL p x y 64) := by
    refine down_to _ ?_ ?_
    · exact ldone (by unfold spec_BlockOf_l2; rw [sel_no (by simp)])
    · intro i hi ih
      refine lgo (y := (((i + 1 : Nat) : Int), blkL p x y (i + 1))) ?_ ih
      unfold spec_BlockOf_l2
      simp only
      rw [sel_yes (by omega), req_p (by omega), req_p (by omega), tmod_pos (by omega), tdiv_pos (by omega), wk (e := (i : Int) / 8) (by omega) (by omega), wk (e := x + (i : Int) % 8) (by omega) (by omega), wk (e := y + (i : Int) / 8) (by omega) (by omega), spec_DotAt_eq ok, bnd_s, req_p (by rw [blkL_length]; simp only [List.length_singleton]; omega), wk (e := (i : Int) + 1) (by omega) (by omega)]
      have e2 : dotAt p (x + (i : Int) % 8) (y + (i : Int) / 8) = blkAt p x y i := by unfold blkAt; congr 1
      rw [e2, ← blkL_succ]
      rfl
  have := key 0 (by omega)
  exact (bnd_e this).trans rfl
theorem impl_block_eq {p : Pic} (ok : picOk p = true) (x y : Int) (hx : -1000 ≤ x ∧ x ≤ 1000) (hy : -1000 ≤ y ∧ y ≤ 1000) : impl_Pic_block p x y = some (blkL p x y 64) := by
  have hm : maxLen = 9223372036854775807 := rfl
  unfold impl_Pic_block
  rw [req_p (by omega)]
  have key : ∀ r : Nat, r ≤ 8 → loop (impl_Pic_block_l12 p x y) ((r : Int), blkL p x y (8 * r)) = some (blkL p x y 64) := by
    refine down_to _ ?_ ?_
    · exact ldone (by unfold impl_Pic_block_l12; rw [sel_no (by simp)])
    · intro r hr ih
      refine lgo (y := (((r + 1 : Nat) : Int), blkL p x y (8 * (r + 1)))) ?_ ih
      unfold impl_Pic_block_l12
      simp only
      have inner : ∀ c : Nat, c ≤ 8 → loop (impl_Pic_block_l14 p x y ((r : Int), blkL p x y (8 * r))) ((c : Int), blkL p x y (8 * r + c)) = some (blkL p x y (8 * (r + 1))) := by
        refine down_to _ ?_ ?_
        · exact ldone (by unfold impl_Pic_block_l14; rw [sel_no (by simp)]; rfl)
        · intro c hc ih2
          refine lgo (y := (((c + 1 : Nat) : Int), blkL p x y (8 * r + (c + 1)))) ?_ ih2
          unfold impl_Pic_block_l14
          simp only
          rw [sel_yes (by omega), wk (e := x + (c : Int)) (by omega) (by omega), wk (e := y + (r : Int)) (by omega) (by omega), impl_dot_eq ok, bnd_s, req_p (by rw [blkL_length]; simp only [List.length_singleton]; omega), wk (e := (c : Int) + 1) (by omega) (by omega)]
          have e2 : dotAt p (x + (c : Int)) (y + (r : Int)) = blkAt p x y (8 * r + c) := by
            unfold blkAt
            rw [show (8 * r + c) % 8 = c by omega, show (8 * r + c) / 8 = r by omega]
          rw [e2, ← blkL_succ]
          rfl
      have i0 := inner 0 (by omega)
      rw [sel_yes (by omega)]
      refine (bnd_e i0).trans ?_
      rw [wk (e := (r : Int) + 1) (by omega) (by omega)]
      rfl
  have := key 0 (by omega)
  exact (bnd_e this).trans rfl
theorem impl_BlockOf_eq {p : Pic} (ok : picOk p = true) (x y : Int) (hx : -1000 ≤ x ∧ x ≤ 1000) (hy : -1000 ≤ y ∧ y ≤ 1000) : impl_BlockOf p x y = some (blkL p x y 64) := by
  unfold impl_BlockOf
  rw [impl_PicOk_eq, bnd_s, ok, sel_t, impl_within_eq, bnd_s, sel_yes (by omega), impl_within_eq, bnd_s, bnd_s, decide_eq_true (by omega), Bool.not_true, sel_f, impl_block_eq ok x y hx hy]
  rfl
def absI (x : Int) : Int := if x < 0 then -x else x
def gapTo (a b : List Int) : Nat → Int
  | 0 => 0
  | n + 1 => gapTo a b n + absI (a.getD n 0 - b.getD n 0)
theorem gapTo_bounds {a b : List Int} (ha : dots64 a = true) (hb : dots64 b = true) : ∀ n : Nat, n ≤ 64 → 0 ≤ gapTo a b n ∧ gapTo a b n ≤ 255 * n
  | 0, _ => by simp [gapTo]
  | n + 1, h => by
    have ih := gapTo_bounds ha hb n (by omega)
    have p := (dots64_at ha).2 n (by omega)
    have q := (dots64_at hb).2 n (by omega)
    simp only [gapTo, absI]
    split <;> omega
theorem impl_gap_eq {a b : List Int} (ha : dots64 a = true) (hb : dots64 b = true) : impl_gap a b = some (gapTo a b 64) := by
  unfold impl_gap
  have la := (dots64_at ha).1
  have lb := (dots64_at hb).1
  have key : ∀ i : Nat, i ≤ 64 → loop (impl_gap_l2 a b) (gapTo a b i, (i : Int)) = some (gapTo a b 64) := by
    refine down_to _ ?_ ?_
    · exact ldone (by unfold impl_gap_l2; rw [sel_no (by simp only; omega)])
    · intro i hi ih
      refine lgo (y := (gapTo a b (i + 1), ((i + 1 : Nat) : Int))) ?_ ih
      have p := (dots64_at ha).2 i hi
      have q := (dots64_at hb).2 i hi
      have g := gapTo_bounds ha hb i (by omega)
      unfold impl_gap_l2 impl_size
      simp only [Int.toNat_natCast]
      rw [sel_yes (by omega), req_p (by omega), req_p (by omega), wk (e := a.getD i 0 - b.getD i 0) (by omega) (by omega), wk (e := 0 - (a.getD i 0 - b.getD i 0)) (by omega) (by omega), bnd_s]
      have e : (if 0 - (a.getD i 0 - b.getD i 0) > a.getD i 0 - b.getD i 0 then 0 - (a.getD i 0 - b.getD i 0) else a.getD i 0 - b.getD i 0) = absI (a.getD i 0 - b.getD i 0) := by
        unfold absI; split <;> split <;> omega
      have ab : 0 ≤ absI (a.getD i 0 - b.getD i 0) ∧ absI (a.getD i 0 - b.getD i 0) ≤ 255 := by unfold absI; split <;> omega
      rw [e, wk (e := gapTo a b i + absI (a.getD i 0 - b.getD i 0)) (by omega) (by omega), wk (e := (i : Int) + 1) (by omega) (by omega)]
      rfl
  exact (bnd_e (key 0 (by omega))).trans rfl
theorem dots_near {l : List Int} (h : dots64 l = true) : (l.all (fun x => decide (-1000 ≤ x ∧ x ≤ 1000)) && ((l.length : Int) == 64)) = true := by
  simp only [dots64, Bool.and_eq_true, decide_eq_true_eq] at h
  simp only [Bool.and_eq_true, beq_iff_eq]
  refine ⟨List.all_eq_true.2 fun x hx => ?_, by omega⟩
  have := List.all_eq_true.1 h.2 x hx
  simp only [dotIn, decide_eq_true_eq] at this ⊢
  omega
theorem impl_GapOf_eq {a b : List Int} (ha : dots64 a = true) (hb : dots64 b = true) : impl_GapOf a b = some (gapTo a b 64) := by
  have la := (dots64_at ha).1
  have lb := (dots64_at hb).1
  unfold impl_GapOf
  rw [show (-1000 : Int) = -1000 from rfl, impl_areIn_eq a _ _ _ (by omega), bnd_s, dots_near ha, sel_t, impl_areIn_eq b _ _ _ (by omega), bnd_s, dots_near hb, bnd_s, Bool.not_true, sel_f, impl_gap_eq ha hb]
  rfl
theorem impl_areDots_eq (l : List Int) (hl : l.length ≤ 9223372036854775806) : impl_areIn l 64 0 255 = some (dots64 l) := by
  rw [impl_areIn_eq l _ _ _ hl]
  have : ((l.length : Int) == 64) = decide (l.length = 64) := by rw [Bool.eq_iff_iff]; simp only [beq_iff_eq, decide_eq_true_eq]; omega
  rw [this, Bool.and_comm]
  rfl
def seSz (d : Int) : Int := ((seL d).length : Int)
theorem impl_SeSize_eq (d : Int) (h : -500000 ≤ d ∧ d ≤ 500000) : impl_SeSize d = some (seSz d) := by
  unfold impl_SeSize seSz
  rw [impl_SeRow_eq d h, bnd_s, strOfNums_size]
theorem seSz_range (d : Int) (h : -500000 ≤ d ∧ d ≤ 500000) : 1 ≤ seSz d ∧ seSz d ≤ 39 := by
  unfold seSz seL
  have := ueL_len (foldN d) (foldN_le d h)
  omega
theorem seSz_zero : seSz 0 = 1 := by
  have : foldN 0 = 0 := by simp [foldN]
  unfold seSz seL ueL
  rw [this, List.length_append, binL_len]
  simp [figs]
theorem spec_l12Dots_ev (c : L01Cur) (n : Int) (hc : curOk c) (h0 : 0 ≤ n) (h1 : n ≤ 100000) : ∃ s c', spec_l12Dots c n = some (s, c') ∧ (s.size : Int) = n ∧ curOk c' := by
  have hm : maxLen = 9223372036854775807 := rfl
  unfold spec_l12Dots
  obtain ⟨z, c0, ez, z0, z1, hz⟩ := spec_l01Byte_ev c hc
  rw [ez, bnd_s]
  simp only
  obtain ⟨o, h, h2, h3⟩ := loop_inv (f := spec_l12Dots_l2 n) (fun v => (0 ≤ v.1 ∧ v.1 ≤ 255) ∧ 0 ≤ v.2.1 ∧ v.2.1 ≤ n ∧ curOk ⟨v.2.2.1, v.2.2.2.1, v.2.2.2.2.1⟩ ∧ (v.2.2.2.2.2.length : Int) = v.2.1) (fun v => (n - v.2.1).toNat) (fun _ o => (o.1.length : Int) = n ∧ curOk ⟨o.2.1, o.2.2.1, o.2.2.2⟩) (by
    intro ⟨w, i, b, j, h, l⟩ ⟨hw, h1, h2, h3, h4⟩
    unfold spec_l12Dots_l2
    simp only at hw h1 h2 h3 h4 ⊢
    by_cases hi : i < n
    · rw [sel_yes hi]
      obtain ⟨x, c', ex, x0, x1, _, hx⟩ := spec_l01Below_ev _ 6 h3
      rw [ex, bnd_s]
      simp only
      have step : ∃ w' c2, (sel (x == 0) (bnd (spec_l01Byte c') fun q16 => some (q16.1, q16.2.b_, q16.2.i_, q16.2.h_)) (sel (x == 1) (bnd (spec_l01Below c' 9) fun q17 => some ((IntKind.wrap .i64 (BitVec.ofInt (IntKind.bits .i64) (wrapK .i64 ((wrapK .i64 (w + q17.1)) + 252)) &&& BitVec.ofInt (IntKind.bits .i64) 255).toNat), q17.2.b_, q17.2.i_, q17.2.h_)) (some (w, c'.b_, c'.i_, c'.h_)))) = some (w', c2.b_, c2.i_, c2.h_) ∧ (0 ≤ w' ∧ w' ≤ 255) ∧ curOk c2 := by
        cases e0 : (x == 0) with
        | true =>
          obtain ⟨y, c2, ey, y0, y1, hy⟩ := spec_l01Byte_ev c' hx
          rw [sel_t, ey, bnd_s]
          exact ⟨y, c2, rfl, ⟨y0, y1⟩, hy⟩
        | false =>
          rw [sel_f]
          cases e1 : (x == 1) with
          | true =>
            obtain ⟨y, c2, ey, y0, y1, _, hy⟩ := spec_l01Below_ev c' 9 hx
            rw [sel_t, ey, bnd_s]
            exact ⟨_, c2, rfl, and_255 _, hy⟩
          | false => rw [sel_f]; exact ⟨w, c', rfl, hw, hx⟩
      obtain ⟨w', c2, es, hw', hc2⟩ := step
      rw [es, bnd_s, req_p (by rw [hm]; simp only [List.length_singleton]; omega)]
      refine .inr ⟨_, rfl, ?_, ?_, fun _ h => h⟩
      · simp only
        rw [wk (e := i + 1) (by omega) (by omega)]
        exact ⟨hw', by omega, by omega, hc2, by simp; omega⟩
      · simp only; rw [wk (e := i + 1) (by omega) (by omega)]; omega
    · rw [sel_no hi]
      exact .inl ⟨_, rfl, by simp only; omega, h3⟩) (z, 0, c0.b_, c0.i_, c0.h_, []) ⟨⟨z0, z1⟩, by simp, h0, hz, by simp⟩
  rw [h, bnd_s]
  exact ⟨_, _, rfl, by rw [strOfNums_size]; exact h2, h3⟩
theorem spec_l12Sized_ev (c : L01Cur) (w h : Int) (hc : curOk c) (hw : 1 ≤ w ∧ w ≤ 256) (hh : 1 ≤ h ∧ h ≤ 256) : ∃ p c', spec_l12Sized c w h = some (p, c') ∧ p.Wide = w ∧ p.High = h ∧ picOk p = true ∧ curOk c' := by
  have a := area_small hw hh
  unfold spec_l12Sized
  rw [wk (e := w * h) (by omega) (by omega)]
  obtain ⟨s, c', e, hs, hc'⟩ := spec_l12Dots_ev c (w * h) hc (by omega) (by omega)
  rw [e, bnd_s]
  exact ⟨_, _, rfl, rfl, rfl, picOk_of hw hh hs, hc'⟩
theorem spec_l12Squares_ev (c : L01Cur) (hc : curOk c) : ∃ p c', spec_l12Squares c = some (p, c') ∧ (p.Wide = 8 ∨ p.Wide = 16) ∧ (p.High = 8 ∨ p.High = 16) ∧ picOk p = true ∧ curOk c' := by
  unfold spec_l12Squares
  obtain ⟨x, c1, e1, x0, x1, _, h1⟩ := spec_l01Below_ev c 2 hc
  obtain ⟨y, c2, e2, y0, y1, _, h2⟩ := spec_l01Below_ev c1 2 h1
  have x1' := x1 (by omega)
  have y1' := y1 (by omega)
  rw [e1, bnd_s]
  simp only
  rw [e2, bnd_s]
  simp only
  rw [wk (e := 8 * x) (by omega) (by omega), wk (e := 8 + 8 * x) (by omega) (by omega), wk (e := 8 * y) (by omega) (by omega), wk (e := 8 + 8 * y) (by omega) (by omega)]
  obtain ⟨p, c3, e3, pw, ph, ok, h3⟩ := spec_l12Sized_ev c2 (8 + 8 * x) (8 + 8 * y) h2 (by omega) (by omega)
  rw [e3, bnd_s]
  exact ⟨_, _, rfl, by simp only; omega, by simp only; omega, ok, h3⟩
theorem spec_l17Near_ev (c : L01Cur) (p : Pic) (hc : curOk c) (ok : picOk p = true) : ∃ q c', spec_l17Near c p = some (q, c') ∧ q.Wide = p.Wide ∧ q.High = p.High ∧ picOk q = true ∧ curOk c' := by
  have hm : maxLen = 9223372036854775807 := rfl
  obtain ⟨k1, k2, k3⟩ := picOk_parts ok
  have ar := area_small k1 k2
  unfold spec_l17Near
  obtain ⟨x, c1, e1, x0, x1, _, h1⟩ := spec_l01Below_ev c 7 hc
  obtain ⟨y, c2, e2, y0, y1, _, h2⟩ := spec_l01Below_ev c1 5 h1
  obtain ⟨z, c3, e3, h3⟩ := spec_l01Once_ev c2 3 h2
  have x1' := x1 (by omega)
  have y1' := y1 (by omega)
  rw [e1, bnd_s]
  simp only
  rw [e2, bnd_s]
  simp only
  rw [e3, bnd_s]
  simp only
  rw [wk (e := x - 3) (by omega) (by omega), wk (e := y - 2) (by omega) (by omega)]
  have hv : ∃ a b : Int, (-10 ≤ a ∧ a ≤ 10) ∧ (-10 ≤ b ∧ b ≤ 10) ∧ sel z (some ((0 : Int), (0 : Int), c3.b_, c3.i_, c3.h_)) (some (x - 3, y - 2, c3.b_, c3.i_, c3.h_)) = some (a, b, c3.b_, c3.i_, c3.h_) := by
    cases z with
    | true => exact ⟨0, 0, by omega, by omega, rfl⟩
    | false => exact ⟨x - 3, y - 2, by omega, by omega, rfl⟩
  obtain ⟨a, b, ha, hb, hv⟩ := hv
  rw [hv, bnd_s]
  obtain ⟨o, h, ho⟩ := loop_inv (f := spec_l17Near_l2 p (a, b, c3.b_, c3.i_, c3.h_)) (fun v => 0 ≤ v.1 ∧ v.1 ≤ (p.Dots.size : Int) ∧ (v.2.length : Int) = v.1) (fun v => ((p.Dots.size : Int) - v.1).toNat) (fun _ o => (o.length : Int) = (p.Dots.size : Int)) (by
    intro ⟨i, l⟩ ⟨g1, g2, g3⟩
    unfold spec_l17Near_l2
    simp only at g1 g2 g3 ⊢
    by_cases hi : i < (p.Dots.size : Int)
    · rw [sel_yes hi, req_p (by omega), req_p (by omega), spec_DotAt_eq ok, bnd_s, req_p (by rw [hm]; simp only [List.length_singleton]; omega), wk (e := i + 1) (by omega) (by omega)]
      exact .inr ⟨_, rfl, ⟨by simp only; omega, by simp only; omega, by simp; omega⟩, by simp only; omega, fun _ h => h⟩
    · rw [sel_no hi]
      exact .inl ⟨_, rfl, by omega⟩) (0, []) ⟨by simp, by simp, by simp⟩
  rw [h, bnd_s]
  obtain ⟨o2, h', g1, g2⟩ := loop_inv (f := spec_l17Near_l4) (fun v => 0 ≤ v.1 ∧ v.1 ≤ 6 ∧ curOk ⟨v.2.1, v.2.2.1, v.2.2.2.1⟩ ∧ (v.2.2.2.2.length : Int) = p.Dots.size) (fun v => (6 - v.1).toNat) (fun _ o => (o.1.length : Int) = p.Dots.size ∧ curOk ⟨o.2.1, o.2.2.1, o.2.2.2⟩) (by
    intro ⟨i, b, j, h, l⟩ ⟨g1, g2, g3, g4⟩
    unfold spec_l17Near_l4
    simp only at g1 g2 g3 g4 ⊢
    obtain ⟨x, c', ex, x0, x1, _, hx⟩ := spec_l01Below_ev _ 6 g3
    have x1' := x1 (by omega)
    rw [ex, bnd_s]
    simp only
    by_cases hi : i < x
    · obtain ⟨y, c2, ey, y0, y1, _, hy⟩ := spec_l01Below_ev c' l.length hx
      have y1' := y1 (by omega)
      obtain ⟨z, c3, ez, z0, z1, hz⟩ := spec_l01Byte_ev c2 hy
      rw [sel_yes hi, ey, bnd_s]
      simp only
      rw [ez, bnd_s]
      simp only
      rw [req_p (by omega), req_p (by omega), wk (e := i + 1) (by omega) (by omega)]
      exact .inr ⟨_, rfl, ⟨by simp only; omega, by simp only; omega, hz, by simp only [List.length_set]; omega⟩, by simp only; omega, fun _ h => h⟩
    · rw [sel_no hi]
      exact .inl ⟨_, rfl, g4, hx⟩) (0, c3.b_, c3.i_, c3.h_, o) ⟨by simp, by simp, h3, by simp only; omega⟩
  rw [h', bnd_s]
  refine ⟨_, _, rfl, rfl, rfl, picOk_of k1 k2 ?_, g2⟩
  simp only
  rw [strOfNums_size]; omega
theorem spec_DrawPics_ev (b : List Int) (hb : b.length ≤ 1048576) : ∃ p q, spec_DrawPics b = some (p, q) ∧ (p.Wide = 8 ∨ p.Wide = 16) ∧ (p.High = 8 ∨ p.High = 16) ∧ picOk p = true ∧ q.Wide = p.Wide ∧ q.High = p.High ∧ picOk q = true := by
  unfold spec_DrawPics
  obtain ⟨c, e, hc⟩ := spec_l01New_ev b hb
  obtain ⟨p, c1, e1, pw, ph, ok, h1⟩ := spec_l12Squares_ev c hc
  obtain ⟨q, c2, e2, qw, qh, ok2, _⟩ := spec_l17Near_ev c1 p h1 ok
  rw [e, bnd_s, e1, bnd_s]
  simp only
  rw [e2, bnd_s]
  exact ⟨_, _, rfl, pw, ph, ok, qw, qh, ok2⟩
def heldAt (p : Pic) (x y : Int) : Bool := decide (0 ≤ x ∧ x ≤ p.Wide - 8 ∧ 0 ≤ y ∧ y ≤ p.High - 8)
theorem impl_holds_8 {p : Pic} (ok : picOk p = true) (x y : Int) : impl_Pic_holds p ⟨x, y, 8, 8⟩ = some (heldAt p x y) := by
  obtain ⟨k1, k2, k3⟩ := picOk_parts ok
  unfold impl_Pic_holds heldAt
  simp only
  rw [impl_within_eq, bnd_s, impl_within_eq, bnd_s, wk (e := p.Wide - 8) (by omega) (by omega), wk (e := p.High - 8) (by omega) (by omega), impl_within_eq, bnd_s, impl_within_eq, bnd_s]
  simp only [sel_and, bnd_s]
  congr 1
  rw [Bool.eq_iff_iff]
  simp only [Bool.and_eq_true, decide_eq_true_eq]
  omega
theorem impl_isSquare_eq {p : Pic} (ok : picOk p = true) (x y : Int) (hx : x.tmod 8 = 0) (hy : y.tmod 8 = 0) (h : heldAt p x y = true) : impl_Pic_isSquare p x y = some true := by
  obtain ⟨k1, k2, k3⟩ := picOk_parts ok
  unfold heldAt at h
  rw [decide_eq_true_eq] at h
  unfold impl_Pic_isSquare
  rw [req_p (by omega), hx, req_p (by omega), hy, wk (e := p.Wide - 8) (by omega) (by omega), wk (e := p.High - 8) (by omega) (by omega), impl_within_eq, bnd_s, impl_within_eq, bnd_s, decide_eq_true (by omega), decide_eq_true (by omega)]
  rfl
def moveCost (p : Pic) (w : List Int) (x y dx dy : Int) : Int := gapTo w (blkL p (x + dx) (y + dy) 64) 64 + seSz dx + seSz dy
def BmI (p : Pic) (w : List Int) (x y r : Int) (past : Bool) (b : Int × Int × Int) : Prop :=
  (b = (0, 0, -1) ∧ past = false) ∨
  ((-r ≤ b.1 ∧ b.1 ≤ r) ∧ (-r ≤ b.2.1 ∧ b.2.1 ≤ r) ∧ heldAt p (x + b.1) (y + b.2.1) = true ∧ b.2.2 = moveCost p w x y b.1 b.2.1 ∧ (past = true → b.2.2 ≤ moveCost p w x y 0 0))
theorem moveCost_range {p : Pic} {w : List Int} (hw : dots64 w = true) (x y dx dy : Int) (hx : -100 ≤ dx ∧ dx ≤ 100) (hy : -100 ≤ dy ∧ dy ≤ 100) : 2 ≤ moveCost p w x y dx dy ∧ moveCost p w x y dx dy ≤ 20000 := by
  have g := gapTo_bounds hw (blkL_dots p (x + dx) (y + dy)) 64 (by omega)
  have a := seSz_range dx (by omega)
  have b := seSz_range dy (by omega)
  unfold moveCost; omega
theorem bm_step {p : Pic} {w : List Int} {x y r : Int} (ok : picOk p = true) (hw : dots64 w = true) (hr : 0 ≤ r ∧ r ≤ 4) (h0 : heldAt p x y = true) (s : Int × Int × Int × Int) (hs : -r ≤ s.2.2.2 ∧ s.2.2.2 ≤ r) (v : Int × Int × Int × Int) (hv : -r ≤ v.2.2.2 ∧ v.2.2.2 ≤ r)
    (past : Bool) (hi : BmI p w x y r past (v.1, v.2.1, v.2.2.1)) (hp : past = true ↔ (s.2.2.2 > 0 ∨ (s.2.2.2 = 0 ∧ v.2.2.2 > 0))) :
    ∃ b, impl_BestMove_l14 p w x y r s v = some (.go (b.1, b.2.1, b.2.2, v.2.2.2 + 1)) ∧ BmI p w x y r (decide (s.2.2.2 > 0 ∨ (s.2.2.2 = 0 ∧ v.2.2.2 + 1 > 0))) b := by
  obtain ⟨k1, k2, k3⟩ := picOk_parts ok
  have h0' := h0
  unfold heldAt at h0'
  rw [decide_eq_true_eq] at h0'
  unfold impl_BestMove_l14
  rw [sel_yes hv.2, wk (e := x + v.2.2.2) (by omega) (by omega), wk (e := y + s.2.2.2) (by omega) (by omega), wk (e := v.2.2.2 + 1) (by omega) (by omega), impl_holds_8 ok, bnd_s]
  cases hh : heldAt p (x + v.2.2.2) (y + s.2.2.2) with
  | false =>
    refine ⟨(v.1, v.2.1, v.2.2.1), rfl, ?_⟩
    have ne : ¬ (s.2.2.2 = 0 ∧ v.2.2.2 = 0) := by
      intro ⟨e1, e2⟩
      rw [e1, e2, Int.add_zero, Int.add_zero, h0] at hh
      cases hh
    rcases hi with ⟨h1, h2⟩ | ⟨h1, h2, h3, h4, h5⟩
    · refine .inl ⟨h1, ?_⟩
      rw [decide_eq_false_iff_not]
      intro h
      have := hp.2 (by omega)
      rw [h2] at this; cases this
    · refine .inr ⟨h1, h2, h3, h4, fun h => h5 (hp.2 ?_)⟩
      rw [decide_eq_true_eq] at h
      omega
  | true =>
    have hh' := hh
    unfold heldAt at hh'
    rw [decide_eq_true_eq] at hh'
    have hb := blkL_dots p (x + v.2.2.2) (y + s.2.2.2)
    have g := gapTo_bounds hw hb 64 (by omega)
    have z1 := seSz_range v.2.2.2 (by omega)
    have z2 := seSz_range s.2.2.2 (by omega)
    rw [Bool.not_true, sel_f, impl_block_eq ok _ _ (by omega) (by omega), bnd_s, impl_gap_eq hw hb, bnd_s, impl_SeSize_eq _ (by omega), bnd_s, impl_SeSize_eq _ (by omega), bnd_s, wk (e := gapTo w (blkL p (x + v.2.2.2) (y + s.2.2.2) 64) 64 + seSz v.2.2.2) (by omega) (by omega), wk (by omega) (by omega), sel_or, bnd_s]
    have mc : gapTo w (blkL p (x + v.2.2.2) (y + s.2.2.2) 64) 64 + seSz v.2.2.2 + seSz s.2.2.2 = moveCost p w x y v.2.2.2 s.2.2.2 := rfl
    rw [mc]
    have m1 := moveCost_range (p := p) (w := w) hw x y v.2.2.2 s.2.2.2 (by omega) (by omega)
    cases hc : (decide (v.2.2.1 < 0) || decide (moveCost p w x y v.2.2.2 s.2.2.2 < v.2.2.1)) with
    | true =>
      refine ⟨(v.2.2.2, s.2.2.2, moveCost p w x y v.2.2.2 s.2.2.2), rfl, .inr ⟨hv, hs, hh, rfl, fun h => ?_⟩⟩
      rw [decide_eq_true_eq] at h
      by_cases e0 : s.2.2.2 = 0 ∧ v.2.2.2 = 0
      · rw [e0.1, e0.2]; exact Int.le_refl _
      · have hpast := hp.2 (by omega)
        rcases hi with ⟨h1, h2⟩ | ⟨h1, h2, h3, h4, h5⟩
        · rw [h2] at hpast; cases hpast
        · have h5' := h5 hpast
          simp only at h4 h5' ⊢
          have n1 := moveCost_range (p := p) (w := w) hw x y v.1 v.2.1 (by simp only at h1; omega) (by simp only at h2; omega)
          simp only [Bool.or_eq_true, decide_eq_true_eq] at hc
          omega
    | false =>
      refine ⟨(v.1, v.2.1, v.2.2.1), rfl, ?_⟩
      simp only [Bool.or_eq_false_iff, decide_eq_false_iff_not] at hc
      rcases hi with ⟨h1, h2⟩ | ⟨h1, h2, h3, h4, h5⟩
      · simp only [Prod.mk.injEq] at h1
        omega
      · refine .inr ⟨h1, h2, h3, h4, fun h => ?_⟩
        rw [decide_eq_true_eq] at h
        by_cases e0 : s.2.2.2 = 0 ∧ v.2.2.2 = 0
        · have := hc.2
          rw [e0.1, e0.2] at this
          simp only; omega
        · exact h5 (hp.2 (by omega))
theorem impl_BestMove_ev {p : Pic} {w : List Int} {x y r : Int} (ok : picOk p = true) (hw : dots64 w = true) (hr : 0 ≤ r ∧ r ≤ 4) (hx : x.tmod 8 = 0) (hy : y.tmod 8 = 0) (h0 : heldAt p x y = true) :
    ∃ b, impl_BestMove p w x y r = some b ∧ (-r ≤ b.1 ∧ b.1 ≤ r) ∧ (-r ≤ b.2.1 ∧ b.2.1 ≤ r) ∧ heldAt p (x + b.1) (y + b.2.1) = true ∧ b.2.2 = moveCost p w x y b.1 b.2.1 ∧ b.2.2 ≤ moveCost p w x y 0 0 := by
  have hwl := (dots64_at hw).1
  unfold impl_BestMove
  rw [impl_PicOk_eq, bnd_s, ok, sel_t, impl_areDots_eq w (by omega), bnd_s, hw, sel_t, impl_within_eq, bnd_s, decide_eq_true (by omega), sel_t, impl_isSquare_eq ok x y hx hy h0, bnd_s, Bool.not_true, bnd_s, sel_f, wk (e := 0 - r) (by omega) (by omega)]
  obtain ⟨o, h, ho⟩ := loop_inv (f := impl_BestMove_l12 p w x y r) (fun s => -r ≤ s.2.2.2 ∧ s.2.2.2 ≤ r + 1 ∧ BmI p w x y r (decide (s.2.2.2 > 0)) (s.1, s.2.1, s.2.2.1)) (fun s => (r + 1 - s.2.2.2).toNat) (fun _ b => BmI p w x y r true b) (by
    intro s ⟨g1, g2, g3⟩
    unfold impl_BestMove_l12
    by_cases hi : s.2.2.2 ≤ r
    · rw [sel_yes hi, wk (e := s.2.2.2 + 1) (by omega) (by omega), wk (e := 0 - r) (by omega) (by omega)]
      obtain ⟨o, h, ho⟩ := loop_inv (f := impl_BestMove_l14 p w x y r s) (fun v => -r ≤ v.2.2.2 ∧ v.2.2.2 ≤ r + 1 ∧ BmI p w x y r (decide (s.2.2.2 > 0 ∨ (s.2.2.2 = 0 ∧ v.2.2.2 > 0))) (v.1, v.2.1, v.2.2.1)) (fun v => (r + 1 - v.2.2.2).toNat) (fun _ b => BmI p w x y r (decide (s.2.2.2 + 1 > 0)) b) (by
        intro v ⟨f1, f2, f3⟩
        by_cases hv : v.2.2.2 ≤ r
        · obtain ⟨b, e, hb⟩ := bm_step ok hw hr h0 s ⟨g1, hi⟩ v ⟨f1, hv⟩ _ f3 (by rw [decide_eq_true_eq])
          exact .inr ⟨_, e, ⟨by simp only; omega, by simp only; omega, hb⟩, by simp only; omega, fun _ h => h⟩
        · refine .inl ⟨(v.1, v.2.1, v.2.2.1), ?_, ?_⟩
          · unfold impl_BestMove_l14; rw [sel_no hv]
          · have : decide (s.2.2.2 > 0 ∨ (s.2.2.2 = 0 ∧ v.2.2.2 > 0)) = decide (s.2.2.2 + 1 > 0) := by
              rw [decide_eq_decide]; omega
            rw [this] at f3
            exact f3) (s.1, s.2.1, s.2.2.1, 0 - r) ⟨by simp only; omega, by simp only; omega, by
        have : decide (s.2.2.2 > 0 ∨ (s.2.2.2 = 0 ∧ 0 - r > 0)) = decide (s.2.2.2 > 0) := by rw [decide_eq_decide]; omega
        simp only
        rw [this]; exact g3⟩
      rw [h, bnd_s]
      exact .inr ⟨_, rfl, ⟨by simp only; omega, by simp only; omega, ho⟩, by simp only; omega, fun _ h => h⟩
    · rw [sel_no hi]
      refine .inl ⟨_, rfl, ?_⟩
      rw [decide_eq_true (by omega)] at g3
      exact g3) (0, 0, -1, 0 - r) ⟨by simp only; omega, by simp only; omega, .inl ⟨rfl, by simp only [decide_eq_false_iff_not]; omega⟩⟩
  rw [h, bnd_s]
  rcases ho with ⟨_, h2⟩ | ⟨h1, h2, h3, h4, h5⟩
  · cases h2
  · exact ⟨_, rfl, h1, h2, h3, h4, h5 rfl⟩
theorem FnBestMove {p0 : List Int} (h0 : p0.length ≤ maxLen ∧ ∀ y ∈ p0, (Lit.int .u8 y).wf = true) : laws_FnBestMove p0 = some true := by
  have hm : maxLen = 9223372036854775807 := rfl
  unfold laws_FnBestMove
  rw [laws_big_eq, bnd_s]
  by_cases hb : (p0.length : Int) > 1048576
  · rw [sel_yes hb]
  rw [sel_no hb]
  obtain ⟨p, q, e, pw, ph, ok, qw, qh, ok2⟩ := spec_DrawPics_ev p0 (by omega)
  obtain ⟨l, el, ll, lb⟩ := spec_DrawPlaces_ev p0 (by omega)
  rw [e, bnd_s, el, bnd_s]
  simp only
  have at_ : ∀ i : Nat, i < 12 → 0 ≤ l.getD i 0 ∧ l.getD i 0 < 10000 := fun i hi => lb _ (by rw [getD_at l i (by omega)]; exact List.getElem_mem _)
  have a0 := at_ 0 (by omega)
  have a1 := at_ 1 (by omega)
  have a2 := at_ 2 (by omega)
  rw [show ((0 : Int).toNat) = 0 from rfl, show ((1 : Int).toNat) = 1 from rfl, show ((2 : Int).toNat) = 2 from rfl]
  generalize l.getD 0 0 = u at *
  generalize l.getD 1 0 = v at *
  generalize l.getD 2 0 = t at *
  have dw : wrapK .i64 (p.Wide.tdiv 8) = p.Wide / 8 := by rw [tdiv_pos (by omega), wk (by omega) (by omega)]
  have dh : wrapK .i64 (p.High.tdiv 8) = p.High / 8 := by rw [tdiv_pos (by omega), wk (by omega) (by omega)]
  rw [dw, dh]
  have um : 0 ≤ u.tmod (p.Wide / 8) ∧ 8 * u.tmod (p.Wide / 8) ≤ p.Wide - 8 := by
    rw [tmod_pos a0.1]
    have := Int.emod_nonneg u (show p.Wide / 8 ≠ 0 by omega)
    have := Int.emod_lt_of_pos u (show 0 < p.Wide / 8 by omega)
    omega
  have vm : 0 ≤ v.tmod (p.High / 8) ∧ 8 * v.tmod (p.High / 8) ≤ p.High - 8 := by
    rw [tmod_pos a1.1]
    have := Int.emod_nonneg v (show p.High / 8 ≠ 0 by omega)
    have := Int.emod_lt_of_pos v (show 0 < p.High / 8 by omega)
    omega
  have tm : 0 ≤ t.tmod 4 ∧ t.tmod 4 ≤ 3 := by rw [tmod_pos a2.1]; omega
  rw [req_p (by omega), req_p (by omega), req_p (by omega), req_p (by omega), req_p (by omega), req_p (by omega), req_p (by omega), req_p (by omega)]
  generalize u.tmod (p.Wide / 8) = x' at *
  generalize v.tmod (p.High / 8) = y' at *
  generalize t.tmod 4 = r at *
  rw [wk (e := 8 * x') (by omega) (by omega), wk (e := 8 * y') (by omega) (by omega)]
  have hx : (8 * x').tmod 8 = 0 := by rw [tmod_pos (by omega)]; omega
  have hy : (8 * y').tmod 8 = 0 := by rw [tmod_pos (by omega)]; omega
  have hx0 : 0 ≤ 8 * x' := by omega
  have hy0 : 0 ≤ 8 * y' := by omega
  generalize 8 * x' = x at *
  generalize 8 * y' = y at *
  have held : heldAt p x y = true := by unfold heldAt; rw [decide_eq_true_eq]; omega
  have hd := blkL_dots q x y
  rw [spec_BlockOf_eq ok2 x y (by omega) (by omega), bnd_s, List.nil_append, blkL_length, req_p (by simp only [List.length_nil]; omega), req_p (by omega), req_p (by omega), req_p (by omega)]
  obtain ⟨b, eb, b1, b2, b3, b4, b5⟩ := impl_BestMove_ev (r := r) ok hd (by omega) hx hy held
  have b3' := b3
  unfold heldAt at b3'
  rw [decide_eq_true_eq] at b3'
  rw [eb, bnd_s, req_p (by simp only [List.length_nil]; omega), wk (e := x + b.1) (by omega) (by omega), wk (e := y + b.2.1) (by omega) (by omega), impl_BlockOf_eq ok _ _ (by omega) (by omega), bnd_s, impl_GapOf_eq hd (blkL_dots _ _ _), bnd_s, impl_SeSize_eq _ (by omega), bnd_s, impl_SeSize_eq _ (by omega), bnd_s, req_p (by simp only [List.length_nil]; omega), impl_BlockOf_eq ok _ _ (by omega) (by omega), bnd_s, impl_GapOf_eq hd (blkL_dots _ _ _), bnd_s]
  have g1 := gapTo_bounds hd (blkL_dots p (x + b.1) (y + b.2.1)) 64 (by omega)
  have g2 := gapTo_bounds hd (blkL_dots p x y) 64 (by omega)
  have z1 := seSz_range b.1 (by omega)
  have z2 := seSz_range b.2.1 (by omega)
  have b5' := b5
  unfold moveCost at b4 b5'
  rw [seSz_zero, Int.add_zero, Int.add_zero] at b5'
  rw [wk (e := gapTo (blkL q x y 64) (blkL p (x + b.1) (y + b.2.1) 64) 64 + seSz b.1) (by omega) (by omega), wk (e := gapTo (blkL q x y 64) (blkL p (x + b.1) (y + b.2.1) 64) 64 + seSz b.1 + seSz b.2.1) (by omega) (by omega), wk (e := gapTo (blkL q x y 64) (blkL p x y 64) 64 + 2) (by omega) (by omega), wk (e := 0 - r) (by omega) (by omega), wk (e := x + b.1 + 8) (by omega) (by omega), wk (e := y + b.2.1 + 8) (by omega) (by omega)]
  rw [sel_pos (by simp only [beq_iff_eq]; omega), sel_yes (by omega), sel_yes (by omega), req_p (by omega), req_p (by omega), req_p (by omega), sel_yes (by omega), req_p (by omega), req_p (by omega), req_p (by omega), sel_yes (by omega), req_p (by omega), req_p (by omega), req_p (by omega), sel_yes (by omega), req_p (by omega), req_p (by omega), req_p (by omega), sel_yes (by omega), sel_yes (by omega), sel_yes (by omega), sel_yes (by omega), bnd_s, decide_eq_true (by omega)]
end Go.Proofs.Ytplmeeookgefnaa.A.Pure
