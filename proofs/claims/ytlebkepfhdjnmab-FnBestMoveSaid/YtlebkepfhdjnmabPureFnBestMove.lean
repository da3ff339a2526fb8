/- The pure statement of the law FnBestMove: over numbers, texts and lists alone, what the law computes is true. Conditions: the sizes of what a machine holds. -/
import Derived.Test.YtlebkepfhdjnmabDFnBestMove
namespace Go.Proofs.Ytlebkepfhdjnmab.A.Pure
open Go Go.Proofs Go.Proofs.YtlebkepfhdjnmabAL Go.RowKit
set_option linter.unusedVariables false
set_option linter.unusedSimpArgs false
set_option maxHeartbeats 1000000
theorem Xaf {α β : Type} (a : α) (f : α → Option β) : bnd (some a) f = f a := rfl
theorem Xqi {α β : Type} {x : Option α} {a : α} {f : α → Option β} (h : x = some a) : bnd x f = f a := by subst h; rfl
theorem Xlb {β : Type} (x y : β) : sel true x y = x := rfl
theorem Xmn {β : Type} (x y : β) : sel false x y = y := rfl
theorem Xry {β : Type} (b : Bool) (x y : β) : sel (!b) x y = sel b y x := by cases b <;> rfl
theorem Xla (b x : Bool) : sel b (some x) (some false) = some (b && x) := by cases b <;> rfl
theorem Xrc (b x : Bool) : sel b (some true) (some x) = some (b || x) := by cases b <;> rfl
theorem Xsl {β : Type} (p : Prop) [Decidable p] (x y : β) : sel (decide p) x y = if p then x else y := by
 by_cases h : p <;> simp [h, sel]
theorem Xnb {β : Type} {b : Bool} {x y : β} (h : b = true) : sel b x y = x := by subst h; rfl
theorem Xp0 {β : Type} {b : Bool} {x y : β} (h : b = false) : sel b x y = y := by subst h; rfl
theorem Xcu {β : Type} {p : Prop} [Decidable p] {x y : β} (h : p) : sel (decide p) x y = x := by simp [h, sel]
theorem Xde {β : Type} {p : Prop} [Decidable p] {x y : β} (h : ¬ p) : sel (decide p) x y = y := by simp [h, sel]
theorem Xd6 {β : Type} {c : Prop} [Decidable c] {k : Option β} (h : c) : req c k = k := if_pos h
theorem wk {e : Int} (h1 : -9223372036854775808 ≤ e) (h2 : e ≤ 9223372036854775807) : Xaa .i64 e = e := by
 show wrap64 e = e
 unfold wrap64; omega
theorem rqA {β : Type} {c : Prop} [Decidable c] {k : Option β} (h : c := by omega) : req c k = k := Xd6 h
theorem syA {β : Type} {c : Prop} [Decidable c] {x y : β} (h : c := by omega) : sel (decide c) x y = x := Xcu h
theorem snA {β : Type} {c : Prop} [Decidable c] {x y : β} (h : ¬ c := by omega) : sel (decide c) x y = y := Xde h
theorem wkA {e : Int} (h1 : -9223372036854775808 ≤ e := by omega) (h2 : e ≤ 9223372036854775807 := by omega) : Xaa .i64 e = e := wk h1 h2
theorem w8 {e : Int} (h1 : 0 ≤ e) (h2 : e ≤ 255) : Xaa .u8 e = e := by
 show IntKind.wrap .u8 e = e
 simp [IntKind.wrap, IntKind.signed, IntKind.bits]; omega
theorem Xpr : maxLen = 9223372036854775807 := rfl
theorem Xc4 {a b : Int} (h : 0 ≤ a) : Int.tmod a b = a % b := Int.tmod_eq_emod_of_nonneg h
theorem Xlg {a b : Int} (h : 0 ≤ a) : Int.tdiv a b = a / b := Int.tdiv_eq_ediv_of_nonneg h
theorem Xkn {P : Nat → Prop} (n : Nat) (h0 : P n) (hs : ∀ i, i < n → P (i + 1) → P i) : ∀ i, i ≤ n → P i := by
 intro i hi
 obtain ⟨k, rfl⟩ : ∃ k, n = i + k := ⟨n - i, by omega⟩
 clear hi
 induction k generalizing i with
 | zero => exact h0
 | succ k ih =>
  refine hs i (by omega) ?_
  exact ih (i + 1) (by rw [show i + 1 + k = i + (k + 1) by omega]; exact h0) (fun j hj => hs j (by omega))
theorem lgo {V O : Type} {f : V → Option (Lp V O)} {x y : V} {r : Option O} (h : f x = some (.go y)) (k : loop f y = r) : loop f x = r := by rw [Xm6 h]; exact k
theorem Xm4 {V O : Type} {f : V → Option (Lp V O)} {x : V} {o : O} (h : f x = some (.done o)) : loop f x = some o := Xfy h
theorem Xd2 {V O : Type} {f : V → Option (Lp V O)} (I : V → Prop) (m : V → Nat) (Q : V → O → Prop) (h : ∀ v, I v → (∃ o, f v = some (.done o) ∧ Q v o) ∨ ∃ v', f v = some (.go v') ∧ I v' ∧ m v' < m v ∧ ∀ o, Q v' o → Q v o) : ∀ v, I v → ∃ o, loop f v = some o ∧ Q v o := by
 intro v
 generalize hn : m v = n
 induction n using Nat.strongRecOn generalizing v with
 | _ n ih =>
  intro hv
  rcases h v hv with ⟨o, h1, h2⟩ | ⟨v', h1, h2, h3, h4⟩
  ·
   exact ⟨o, Xfy h1, h2⟩
  ·
   obtain ⟨o, h5, h6⟩ := ih (m v') (by omega) v' rfl h2
   exact ⟨o, by rw [Xm6 h1]; exact h5, h4 o h6⟩
theorem Xpc {α : Type} (l : List α) (i : Nat) (h : i < l.length) (d : α) : l.getD i d = l[i] := by
 simp [List.getD_eq_getElem?_getD, List.getElem?_eq_getElem h]
theorem Xak (a b c : Int) : Xal a b c = some (decide (b ≤ a ∧ a ≤ c)) := by
 unfold Xal
 by_cases h : b ≤ a <;> simp [bnd, sel, h]
theorem Xd7 (a b c : Int) : Xbt a b c = some (decide (b ≤ a ∧ a ≤ c)) := by
 unfold Xbt
 by_cases h : b ≤ a <;> simp [bnd, sel, h]
theorem Xrz {α : Type} (a : List α) (x y : α) (b : List α) : (a ++ x :: b).set a.length y = a ++ y :: b := by
 induction a with
 | nil => rfl
 | cons z a ih => simp only [List.cons_append, List.length_cons, List.set_cons_succ, ih]
theorem Xqr {α : Type} (a : List α) (x d : α) (b : List α) : (a ++ x :: b).getD a.length d = x := by
 induction a with
 | nil => rfl
 | cons z a ih => simp
theorem Xh0 (y : Int) : 0 ≤ IntKind.wrap .i64 (BitVec.ofInt (IntKind.bits .i64) y &&& BitVec.ofInt (IntKind.bits .i64) 255).toNat ∧ IntKind.wrap .i64 (BitVec.ofInt (IntKind.bits .i64) y &&& BitVec.ofInt (IntKind.bits .i64) 255).toNat ≤ 255 := by
 have h : (BitVec.ofInt (IntKind.bits .i64) y &&& BitVec.ofInt (IntKind.bits .i64) 255).toNat ≤ 255 := by
  rw [BitVec.toNat_and]
  exact Nat.le_trans Nat.and_le_right (by decide)
 generalize (BitVec.ofInt (IntKind.bits .i64) y &&& BitVec.ofInt (IntKind.bits .i64) 255).toNat = n at h ⊢
 rw [← Xet, wkA]
 omega
def Xdj (c : Xap) : Prop := c.b_.length ≤ 1048576 ∧ 0 ≤ c.i_
theorem Xe1 (b : List Int) (hb : b.length ≤ 1048576) : ∃ c, Xcc b = some c ∧ Xdj c := by
 unfold Xcc
 obtain ⟨o, h, _⟩ := Xd2 (f := Xci b) (fun v => 0 ≤ v.2) (fun v => b.length - v.2.toNat) (fun _ _ => True) (by
  intro ⟨h, i⟩ hi
  unfold Xci
  simp only [Xla, Xaf] at hi ⊢
  by_cases h1 : i < b.length ∧ i < 4000
  ·
   rw [Xnb (by simp; exact h1), Xd6 ⟨hi, h1.1⟩]
   refine .inr ⟨_, rfl, ?_, ?_, fun _ _ => trivial⟩
   ·
    simp only; rw [wkA]; omega
   ·
    simp only; rw [wkA]; omega
  ·
   rw [Xp0 (by simp; omega)]
   exact .inl ⟨_, rfl, trivial⟩) (Xaa .i64 (94701 + (b.length : Int)), 0) (by simp)
 rw [h]
 exact ⟨_, rfl, hb, by simp⟩
theorem Xax (c : Xap) (hc : Xdj c) : ∃ x c', Xar c = some (x, c') ∧ 0 ≤ x ∧ x ≤ 255 ∧ Xdj c' := by
 unfold Xar
 rw [Xd6 (by decide), Xd6 (by decide)]
 obtain ⟨h1, h2⟩ := hc
 by_cases h : c.i_ < c.b_.length
 ·
  rw [Xcu h, Xd6 ⟨h2, h⟩, Xaf]
  refine ⟨_, _, rfl, (Xh0 _).1, (Xh0 _).2, h1, ?_⟩
  simp only; rw [wkA]; omega
 ·
  rw [Xde h, Xaf]
  exact ⟨_, _, rfl, (Xh0 _).1, (Xh0 _).2, h1, h2⟩
theorem Xao (c : Xap) (n : Int) (hc : Xdj c) : ∃ x c', Xai c n = some (x, c') ∧ 0 ≤ x ∧ (0 < n → x < n) ∧ (n ≤ 0 → x = 0) ∧ Xdj c' := by
 unfold Xai
 by_cases h0 : n ≤ 0
 ·
  rw [Xcu h0]; exact ⟨_, _, rfl, by omega, fun h => by omega, fun _ => rfl, hc⟩
 ·
  rw [Xde h0]
  obtain ⟨x, c1, e1, a1, b1, hc1⟩ := Xax c hc
  by_cases h1 : n ≤ 256
  ·
   rw [Xcu h1, e1, Xaf, rqA]
   refine ⟨_, _, rfl, ?_, fun _ => ?_, fun h => by omega, hc1⟩
   ·
    simp only; rw [Xc4 a1]; exact Int.emod_nonneg _ (by omega)
   ·
    simp only; rw [Xc4 a1]; exact Int.emod_lt_of_pos _ (by omega)
  ·
   obtain ⟨y, c2, e2, a2, b2, hc2⟩ := Xax c1 hc1
   obtain ⟨z, c3, e3, a3, b3, hc3⟩ := Xax c2 hc2
   obtain ⟨u, c4, e4, a4, b4, hc4⟩ := Xax c3 hc3
   rw [Xde h1, e1, Xaf]
   simp only
   rw [e2, Xaf]
   simp only
   rw [e3, Xaf]
   simp only
   rw [e4, Xaf, rqA]
   simp only
   rw [wkA (e := x * 16777216), wkA (e := y * 65536), wkA (e := z * 256), wkA (e := x * 16777216 + y * 65536), wkA (e := x * 16777216 + y * 65536 + z * 256), wkA, Xc4 (by omega)]
   exact ⟨_, _, rfl, Int.emod_nonneg _ (by omega), fun _ => Int.emod_lt_of_pos _ (by omega), fun h => by omega, hc4⟩
theorem Xi4 (c : Xap) (n : Int) (hc : Xdj c) : ∃ x c', Xco c n = some (x, c') ∧ Xdj c' := by
 unfold Xco
 obtain ⟨x, c', e, _, _, _, h⟩ := Xao c n hc
 rw [e, Xaf]; exact ⟨_, _, rfl, h⟩
theorem Xm3 (l : List Int) : Xhu l = some (decide ((l.length : Int) > 1048576)) := rfl
theorem Xf4 (b : List Int) (hb : b.length ≤ 1048576) : ∃ l, Xbd b = some l ∧ l.length = 12 ∧ ∀ x ∈ l, 0 ≤ x ∧ x < 10000 := by
 unfold Xbd
 obtain ⟨c, e, hc⟩ := Xe1 b hb
 obtain ⟨x, c1, e1, _, _, hc1⟩ := Xax c hc
 rw [e, Xaf, e1, Xaf]
 obtain ⟨o, h, h2⟩ := Xd2 (f := Xa9) (fun v => 0 ≤ v.1 ∧ v.1 ≤ 12 ∧ Xdj ⟨v.2.1, v.2.2.1, v.2.2.2.1⟩ ∧ (v.2.2.2.2.length : Int) = v.1 ∧ ∀ x ∈ v.2.2.2.2, 0 ≤ x ∧ x < 10000) (fun v => 12 - v.1.toNat) (fun _ o => o.length = 12 ∧ ∀ x ∈ o, 0 ≤ x ∧ x < 10000) (by
  intro ⟨i, b, j, h, l⟩ ⟨h1, h2, h3, h4, h5⟩
  unfold Xa9
  simp only at h1 h2 h3 h4 h5 ⊢
  by_cases hi : i < 12
  ·
   obtain ⟨x, c', ex, x0, x1, _, hx⟩ := Xao _ 10000 h3
   rw [Xcu hi, ex, Xaf, Xd6 (by rw [Xpr]; simp only [List.length_singleton]; omega)]
   refine .inr ⟨_, rfl, ?_, ?_, fun _ h => h⟩
   ·
    rw [wkA]
    refine ⟨by omega, by omega, hx, by simp; omega, ?_⟩
    intro y hy
    rcases List.mem_append.1 hy with hy | hy
    ·
     exact h5 y hy
    ·
     rw [List.mem_singleton.1 hy]; exact ⟨x0, x1 (by omega)⟩
   ·
    rw [wkA]; omega
  ·
   rw [Xde hi]
   exact .inl ⟨_, rfl, by omega, h5⟩) (0, c1.b_, c1.i_, c1.h_, []) ⟨by simp, by simp, hc1, by simp, by simp⟩
 rw [h]
 exact ⟨_, rfl, h2⟩
def Xay (n a b : Int) : Int := if b < a ∨ n < a then a else if n > b then b else n
theorem Xed (n a b : Int) : Xbp n a b = some (Xay n a b) := by
 unfold Xbp Xay
 congr 1
 repeat' split
 all_goals omega
theorem Xek {n a b : Int} (h : a ≤ b) : a ≤ Xay n a b ∧ Xay n a b ≤ b := by
 unfold Xay
 repeat' split
 all_goals omega
theorem Xej (n a b : Int) : Xbs n a b = some (Xay n a b) := by
 unfold Xbs Xay
 rw [Xrc, Xaf]
 by_cases h : b < a ∨ n < a
 ·
  rw [if_pos h, Xnb (by simpa using h)]
 ·
  rw [if_neg h, Xp0 (by simp; omega), Xsl]; split <;> rfl
def Xc1 (p : Pic) : Bool := decide (1 ≤ p.Wide ∧ p.Wide ≤ 256) && (decide (1 ≤ p.High ∧ p.High ≤ 256) && ((p.Dots.size : Int) == p.Wide * p.High))
theorem Xdn {w h : Int} (h1 : 1 ≤ w ∧ w ≤ 256) (h2 : 1 ≤ h ∧ h ≤ 256) : 1 ≤ w * h ∧ w * h ≤ 65536 := by
 have a : w * 1 ≤ w * h := Int.mul_le_mul_of_nonneg_left h2.1 (by omega)
 have b : w * h ≤ 256 * h := Int.mul_le_mul_of_nonneg_right h1.2 (by omega)
 omega
theorem Xf6 (p : Pic) : Xc9 p = some (Xc1 p) := by
 unfold Xc9 Xc1
 simp only [Xd7, Xaf, Xla]
 by_cases h1 : 1 ≤ p.Wide ∧ p.Wide ≤ 256
 ·
  by_cases h2 : 1 ≤ p.High ∧ p.High ≤ 256
  ·
   have := Xdn h1 h2
   rw [wkA]
  ·
   rw [decide_eq_false h2, Bool.false_and, Bool.false_and]
 ·
  rw [decide_eq_false h1, Bool.false_and, Bool.false_and]
theorem Xfm (p : Pic) : Xc6 p = some (Xc1 p) := by
 unfold Xc6 Xc1
 simp only [Xak, Xaf, Xla]
 by_cases h1 : 1 ≤ p.Wide ∧ p.Wide ≤ 256
 ·
  by_cases h2 : 1 ≤ p.High ∧ p.High ≤ 256
  ·
   have := Xdn h1 h2
   rw [wkA]
  ·
   rw [decide_eq_false h2, Bool.false_and, Bool.false_and]
 ·
  rw [decide_eq_false h1, Bool.false_and, Bool.false_and]
theorem Xs2 (y : Int) : IntKind.wrap .i64 (BitVec.ofInt (IntKind.bits .i64) y &&& BitVec.ofInt (IntKind.bits .i64) 1).toNat = y % 2 := by
 have h : (BitVec.ofInt 64 y &&& BitVec.ofInt 64 1).toNat = (y % 2).toNat := by
  rw [BitVec.toNat_and]
  have e1 : (BitVec.ofInt 64 1).toNat = 1 := by decide
  rw [e1, Nat.and_one_is_mod, BitVec.toNat_ofInt]
  omega
 show IntKind.wrap .i64 ((BitVec.ofInt 64 y &&& BitVec.ofInt 64 1).toNat : Int) = _
 rw [h, ← Xet, wkA]
 omega
def Xq8 : Nat → Int → List Int
 | 0, _ => []
 | w + 1, n => Xq8 w (n / 2) ++ [48 + n % 2]
theorem Xoo (w : Nat) : ∀ (k : Nat) (n : Int) (s : List Int), 0 ≤ n → n ≤ 9223372036854775807 → k + s.length ≤ 100000 → loop Xby (n, (k : Int) - 1, List.replicate k 0 ++ s) = some (Xq8 k n ++ s) := by
 intro k
 induction k with
 | zero =>
  intro n s h0 h1 hl
  refine Xm4 ?_
  unfold Xby
  simp only
  rw [snA]
  simp [Xq8]
 | succ k ih =>
  intro n s h0 h1 hl
  have e1 : List.replicate (k + 1) (0 : Int) ++ s = List.replicate k 0 ++ 0 :: s := by rw [List.replicate_succ', List.append_assoc]; rfl
  have e2 := Xrz (List.replicate k (0 : Int)) 0 (48 + n % 2) s
  rw [List.length_replicate] at e2
  refine lgo (y := (n / 2, (k : Int) - 1, List.replicate k 0 ++ (48 + n % 2) :: s)) ?_ ?_
  ·
   unfold Xby
   have e3 : (((k + 1 : Nat) : Int) - 1).toNat = k := by omega
   simp only [e1, e3]
   rw [syA, Xd6 (by simp; omega), Xd6 (by simp), Xd6 (by decide), Xs2, wkA (e := 48 + n % 2), w8 (by omega) (by omega), e2, wkA]
   rw [show ((k + 1 : Nat) : Int) - 1 - 1 = (k : Int) - 1 by omega]
   rfl
  ·
   rw [ih (n / 2) ((48 + n % 2) :: s) (by omega) (by omega) (by simp; omega), Xq8, List.append_assoc]; rfl
theorem Xku (n : Int) (w : Nat) (h0 : 0 ≤ n) (h1 : n ≤ 9223372036854775807) (hw : w ≤ 1000) : Xdq n (w : Int) = some (strOfNums (Xq8 w n)) := by
 unfold Xdq
 rw [rqA, wkA, Int.toNat_natCast]
 have := Xoo w w n [] h0 h1 (by simp; omega)
 rw [List.append_nil, List.append_nil] at this
 rw [this, Xaf]
def Xh6 (m : Nat) : Nat := if h : m = 0 then 0 else Xh6 (m / 2) + 1
termination_by m
decreasing_by omega
def Xr8 (m : Nat) : List Int := if h : m = 0 then [] else Xr8 (m / 2) ++ [48 + ((m % 2 : Nat) : Int)]
termination_by m
decreasing_by omega
theorem Xnk (m : Nat) : (Xr8 m).length = Xh6 m := by
 induction m using Nat.strongRecOn with
 | _ m ih =>
  rw [Xr8, Xh6]
  by_cases h : m = 0
  ·
   rw [dif_pos h, dif_pos h]; rfl
  ·
   rw [dif_neg h, dif_neg h, List.length_append, ih (m / 2) (by omega)]; rfl
theorem Xpb {m j : Nat} (h : m < 2 ^ j) : Xh6 m ≤ j := by
 induction j generalizing m with
 | zero => rw [Xh6, dif_pos (by simp at h; omega)]; omega
 | succ j ih =>
  rw [Xh6]
  split
  ·
   omega
  ·
   have := ih (m := m / 2) (by rw [Nat.pow_succ] at h; omega)
   omega
theorem Xnp {m : Nat} (h : 0 < m) : 1 ≤ Xh6 m := by rw [Xh6, dif_neg (by omega)]; omega
theorem Xqm (z m : Nat) : Xq8 (Xh6 m + z) m = List.replicate z 48 ++ Xr8 m := by
 induction m using Nat.strongRecOn with
 | _ m ih =>
  rw [Xr8, Xh6]
  by_cases h : m = 0
  ·
   rw [dif_pos h, dif_pos h, h, List.append_nil, Nat.zero_add]
   clear ih h
   induction z with
   | zero => rfl
   | succ z iz => rw [Xq8, show ((0 : Nat) : Int) / 2 = ((0 : Nat) : Int) from rfl, iz, List.replicate_succ']; rfl
  ·
   rw [dif_neg h, dif_neg h, show Xh6 (m / 2) + 1 + z = Xh6 (m / 2) + z + 1 by omega, Xq8, show (m : Int) / 2 = ((m / 2 : Nat) : Int) by omega, ih (m / 2) (by omega), List.append_assoc, show (m : Int) % 2 = ((m % 2 : Nat) : Int) by omega]
def ueL (n : Nat) : List Int := List.replicate (Xh6 (n + 1) - 1) 48 ++ Xr8 (n + 1)
theorem Xr5 (n : Nat) (h : n ≤ 1000000) : (ueL n).length ≤ 39 ∧ 1 ≤ (ueL n).length := by
 unfold ueL
 rw [List.length_append, List.length_replicate, Xnk]
 have := Xpb (m := n + 1) (j := 20) (by omega)
 have := Xnp (m := n + 1) (by omega)
 omega
theorem Xjg : ∀ (m : Nat) (k : Int), 0 ≤ k → k ≤ 1000 → m ≤ 9223372036854775807 → loop Xat ((m : Int), k) = some (k + Xh6 m) := by
 have main : ∀ (j m : Nat) (k : Int), m < 2 ^ j → j ≤ 63 → 0 ≤ k → k + j ≤ 2000 → loop Xat ((m : Int), k) = some (k + Xh6 m) := by
  intro j
  induction j with
  | zero =>
   intro m k hm _ _ _
   have : m = 0 := by simp at hm; omega
   subst this
   refine Xm4 ?_
   unfold Xat
   simp only
   rw [snA, Xh6, dif_pos rfl]; simp
  | succ j ih =>
   intro m k hm hj h0 h1
   by_cases h : m = 0
   ·
    subst h
    refine Xm4 ?_
    unfold Xat
    simp only
    rw [snA, Xh6, dif_pos rfl]; simp
   ·
    refine lgo (y := (((m / 2 : Nat) : Int), k + 1)) ?_ ?_
    ·
     unfold Xat
     simp only
     rw [syA, Xd6 (by decide), wkA]
     show some (Lp.go ((m : Int) / 2, k + 1)) = _
     congr 3
    ·
     rw [ih (m / 2) (k + 1) (by rw [Nat.pow_succ] at hm; omega) (by omega) (by omega) (by omega), Xh6.eq_def m, dif_neg h]
     congr 1; omega
 intro m k h0 h1 hm
 exact main 63 m k (by omega) (by omega) h0 (by omega)
theorem Xoh (n : Nat) (h : n ≤ 1000000) : Xii (n : Int) = some (strOfNums (ueL n)) := by
 unfold Xii Xcg
 rw [wkA (e := (n : Int) + 1)]
 have := Xjg (n + 1) 0 (by omega) (by omega) (by omega)
 rw [show ((n + 1 : Nat) : Int) = (n : Int) + 1 by omega, Int.zero_add] at this
 rw [this, Xaf, Xaf]
 have h1 := Xpb (m := n + 1) (j := 20) (by omega)
 have h2 := Xnp (m := n + 1) (by omega)
 rw [wkA (e := 2 * (Xh6 (n + 1) : Int)), wkA, show 2 * (Xh6 (n + 1) : Int) - 1 = ((Xh6 (n + 1) + (Xh6 (n + 1) - 1) : Nat) : Int) by omega, Xku _ _ (by omega) (by omega) (by omega), Xaf,
  show (n : Int) + 1 = ((n + 1 : Nat) : Int) by omega, Xqm]
 rfl
def Xlx (n : Int) : Nat := if n > 0 then (2 * n - 1).toNat else (-2 * n).toNat
theorem Xji (n : Int) (h : -500000 ≤ n ∧ n ≤ 500000) : Xdb n = some ((Xlx n : Int), true) := by
 unfold Xdb Xlx
 rw [Xak, Xaf, Xry, Xcu h, Xsl, wkA (e := 2 * n), wkA, wkA]
 split
 ·
  rw [Int.toNat_of_nonneg (by omega)]
 ·
  rw [Int.toNat_of_nonneg (by omega)]
theorem Xnq (n : Int) (h : -500000 ≤ n ∧ n ≤ 500000) : Xlx n ≤ 1000000 := by unfold Xlx; split <;> omega
def seL (n : Int) : List Int := ueL (Xlx n)
theorem Xkr (n : Int) (h : -500000 ≤ n ∧ n ≤ 500000) : Xdp n = some (strOfNums (seL n), true) := by
 have := Xnq n h
 unfold Xdp
 rw [Xji n h, Xaf, Xry, Xlb]
 unfold Xel
 rw [Xak, Xaf, Xry, syA, Xoh _ this, Xaf, Xaf]; rfl
theorem Xqh (p : Int → Bool) (l : List Int) (f : Int → Option (Lp Int (Ou Unit Bool))) (h : ∀ i : Nat, i < l.length → f (i : Int) = sel (!(p (l.getD i 0))) (some (.done (.ret false))) (some (.go ((i + 1 : Nat) : Int)))) (h0 : f (l.length : Int) = some (.done (.out ()))) :
  loop f 0 = some (if l.all p = true then .out () else .ret false) := by
 have key : ∀ (r a : List Int), l = a ++ r → loop f (a.length : Int) = some (if r.all p = true then .out () else .ret false) := by
  intro r
  induction r with
  | nil => intro a ha; rw [List.append_nil] at ha; rw [← ha, Xfy h0]; rfl
  | cons x r ih =>
   intro a ha
   have hlen : a.length < l.length := by rw [ha]; simp
   have hx : l.getD a.length 0 = x := by rw [ha]; exact Xqr a x _ r
   have hs := h a.length hlen
   rw [hx] at hs
   cases e : p x with
   | true =>
    rw [e] at hs
    have := ih (a ++ [x]) (by rw [ha]; simp)
    rw [List.length_append, List.length_singleton] at this
    rw [Xm6 hs, this, List.all_cons, e, Bool.true_and]
   | false => rw [e] at hs; rw [Xfy hs, List.all_cons, e, Bool.false_and]; rfl
 exact key l [] rfl
theorem Xd1 (l : List Int) (n lo hi : Int) (hl : l.length ≤ 9223372036854775806) : Xbq l n lo hi = some (l.all (fun x => decide (lo ≤ x ∧ x ≤ hi)) && ((l.length : Int) == n)) := by
 unfold Xbq
 rw [Xqh (fun x => decide (lo ≤ x ∧ x ≤ hi)) l (Xbx l lo hi) (by
   intro i hi
   unfold Xbx
   rw [syA, rqA, Xak, Xaf, wkA, Int.toNat_natCast]
   rfl) (by unfold Xbx; rw [snA]), Xaf]
 cases l.all (fun x => decide (lo ≤ x ∧ x ≤ hi)) <;> rfl
theorem Xkk (b : ByteArray) (i : Int) : 0 ≤ Xqj b i ∧ Xqj b i ≤ 255 := by
 unfold Xqj
 split
 ·
  rename_i h
  have := (b[i.toNat]'h).toNat_lt
  omega
 ·
  omega
theorem Xbl {p : Pic} (h : Xc1 p = true) : (1 ≤ p.Wide ∧ p.Wide ≤ 256) ∧ (1 ≤ p.High ∧ p.High ≤ 256) ∧ (p.Dots.size : Int) = p.Wide * p.High := by
 unfold Xc1 at h
 simp only [Bool.and_eq_true, decide_eq_true_eq, beq_iff_eq] at h
 exact ⟨h.1, h.2.1, h.2.2⟩
theorem Xn3 {p : Pic} (h1 : 1 ≤ p.Wide ∧ p.Wide ≤ 256) (h2 : 1 ≤ p.High ∧ p.High ≤ 256) (h3 : (p.Dots.size : Int) = p.Wide * p.High) : Xc1 p = true := by
 unfold Xc1
 simp only [Bool.and_eq_true, decide_eq_true_eq, beq_iff_eq]
 exact ⟨h1, h2, h3⟩
def Xkm (p : Pic) (x y : Int) : Int := Xqj p.Dots (Xay y 0 (p.High - 1) * p.Wide + Xay x 0 (p.Wide - 1))
theorem Xmw (p : Pic) (x y : Int) : 0 ≤ Xkm p x y ∧ Xkm p x y ≤ 255 := Xkk _ _
theorem Xls {p : Pic} (ok : Xc1 p = true) (x y : Int) : 0 ≤ Xay y 0 (p.High - 1) * p.Wide + Xay x 0 (p.Wide - 1) ∧ Xay y 0 (p.High - 1) * p.Wide + Xay x 0 (p.Wide - 1) < p.Dots.size ∧ 0 ≤ Xay y 0 (p.High - 1) * p.Wide ∧ Xay y 0 (p.High - 1) * p.Wide ≤ 65536 := by
 obtain ⟨h1, h2, h3⟩ := Xbl ok
 have b1 := Xek (n := y) (a := 0) (b := p.High - 1) (by omega)
 have b2 := Xek (n := x) (a := 0) (b := p.Wide - 1) (by omega)
 have m1 := Int.mul_nonneg b1.1 (show 0 ≤ p.Wide by omega)
 have m2 := Int.mul_le_mul_of_nonneg_right b1.2 (show 0 ≤ p.Wide by omega)
 have m3 : (p.High - 1) * p.Wide = p.Wide * p.High - p.Wide := by rw [Int.sub_mul, Int.one_mul, Int.mul_comm]
 have m4 := (Xdn h1 h2).2
 omega
theorem Xmy {p : Pic} (ok : Xc1 p = true) (x y : Int) : Xck p x y = some (Xkm p x y) := by
 obtain ⟨h1, h2, h3⟩ := Xbl ok
 unfold Xck Xkm
 rw [Xed, Xaf, Xed, Xaf, wkA (e := p.High - 1), wkA (e := p.Wide - 1)]
 obtain ⟨p1, p2, p3, p4⟩ := Xls ok x y
 have b2 := Xek (n := x) (a := 0) (b := p.Wide - 1) (by omega)
 have br := Xkk p.Dots (Xay y 0 (p.High - 1) * p.Wide + Xay x 0 (p.Wide - 1))
 rw [wkA (e := Xay y 0 (p.High - 1) * p.Wide), wkA (e := Xay y 0 (p.High - 1) * p.Wide + Xay x 0 (p.Wide - 1)), Xd6 ⟨p1, p2⟩, wkA]
theorem Xf2 {p : Pic} (ok : Xc1 p = true) (x y : Int) : Xc8 p x y = some (Xkm p x y) := by
 obtain ⟨h1, h2, h3⟩ := Xbl ok
 unfold Xc8 Xkm
 rw [Xf6, Xaf, ok, Bool.not_true, Xmn, Xej, Xaf, Xej, Xaf, wkA (e := p.High - 1), wkA (e := p.Wide - 1)]
 obtain ⟨p1, p2, p3, p4⟩ := Xls ok x y
 have b2 := Xek (n := x) (a := 0) (b := p.Wide - 1) (by omega)
 have br := Xkk p.Dots (Xay y 0 (p.High - 1) * p.Wide + Xay x 0 (p.Wide - 1))
 rw [wkA (e := Xay y 0 (p.High - 1) * p.Wide), wkA (e := Xay y 0 (p.High - 1) * p.Wide + Xay x 0 (p.Wide - 1)), Xd6 ⟨p1, p2⟩, wkA]
def Xoc (p : Pic) (x y : Int) (i : Nat) : Int := Xkm p (x + ((i % 8 : Nat) : Int)) (y + ((i / 8 : Nat) : Int))
def Xf9 (p : Pic) (x y : Int) (n : Nat) : List Int := (List.range n).map (Xoc p x y)
theorem Xlp (p : Pic) (x y : Int) (n : Nat) : Xf9 p x y (n + 1) = Xf9 p x y n ++ [Xoc p x y n] := by simp [Xf9, List.range_succ]
theorem Xdw (p : Pic) (x y : Int) (n : Nat) : (Xf9 p x y n).length = n := by simp [Xf9]
def Xql (x : Int) : Bool := decide (0 ≤ x ∧ x ≤ 255)
def Xcv (l : List Int) : Bool := decide (l.length = 64) && l.all Xql
theorem Xbv {l : List Int} (h : Xcv l = true) : l.length = 64 ∧ ∀ i : Nat, i < 64 → 0 ≤ l.getD i 0 ∧ l.getD i 0 ≤ 255 := by
 simp only [Xcv, Bool.and_eq_true, decide_eq_true_eq] at h
 refine ⟨h.1, fun i hi => ?_⟩
 have := List.all_eq_true.1 h.2 (l.getD i 0) (by rw [Xpc l i (by omega)]; exact List.getElem_mem _)
 simpa [Xql] using this
theorem Xda (p : Pic) (x y : Int) : Xcv (Xf9 p x y 64) = true := by
 simp only [Xcv, Xdw, decide_true, Bool.true_and, List.all_eq_true]
 intro z hz
 obtain ⟨i, _, rfl⟩ := List.mem_map.1 hz
 simp only [Xql, decide_eq_true_eq]
 exact Xmw _ _ _
theorem Xi0 {p : Pic} (ok : Xc1 p = true) (x y : Int) (hx : -1000 ≤ x ∧ x ≤ 1000) (hy : -1000 ≤ y ∧ y ≤ 1000) : Xcn p x y = some (Xf9 p x y 64) := by
 have hm : maxLen = 9223372036854775807 := rfl
 unfold Xcn
 rw [Xf6, Xaf, ok, Xlb, Xd7, Xaf, syA, Xd7, Xaf, Xaf, decide_eq_true (by omega), Bool.not_true, Xmn]
 have key : ∀ i : Nat, i ≤ 64 → loop (Xbc p x y) ((i : Int), Xf9 p x y i) = some (Xf9 p x y 64) := by
  refine Xkn _ ?_ ?_
  ·
   exact Xm4 (by unfold Xbc; rw [Xde (by simp)])
  ·
   intro i hi ih
   refine lgo (y := (((i + 1 : Nat) : Int), Xf9 p x y (i + 1))) ?_ ih
   unfold Xbc
   simp only
   rw [syA, rqA, rqA, Xc4 (by omega), Xlg (by omega), wkA (e := (i : Int) / 8), wkA (e := x + (i : Int) % 8), wkA (e := y + (i : Int) / 8), Xf2 ok, Xaf, Xd6 (by rw [Xdw]; simp only [List.length_singleton]; omega), wkA (e := (i : Int) + 1)]
   have e2 : Xkm p (x + (i : Int) % 8) (y + (i : Int) / 8) = Xoc p x y i := by unfold Xoc; congr 1
   rw [e2, ← Xlp]
   rfl
 have := key 0 (by omega)
 exact (Xqi this).trans rfl
theorem Xfr {p : Pic} (ok : Xc1 p = true) (x y : Int) (hx : -1000 ≤ x ∧ x ≤ 1000) (hy : -1000 ≤ y ∧ y ≤ 1000) : Xa8 p x y = some (Xf9 p x y 64) := by
 have hm : maxLen = 9223372036854775807 := rfl
 unfold Xa8
 rw [rqA]
 have key : ∀ r : Nat, r ≤ 8 → loop (Xa3 p x y) ((r : Int), Xf9 p x y (8 * r)) = some (Xf9 p x y 64) := by
  refine Xkn _ ?_ ?_
  ·
   exact Xm4 (by unfold Xa3; rw [Xde (by simp)])
  ·
   intro r hr ih
   refine lgo (y := (((r + 1 : Nat) : Int), Xf9 p x y (8 * (r + 1)))) ?_ ih
   unfold Xa3
   simp only
   have inner : ∀ c : Nat, c ≤ 8 → loop (Xa4 p x y ((r : Int), Xf9 p x y (8 * r))) ((c : Int), Xf9 p x y (8 * r + c)) = some (Xf9 p x y (8 * (r + 1))) := by
    refine Xkn _ ?_ ?_
    ·
     exact Xm4 (by unfold Xa4; rw [Xde (by simp)]; rfl)
    ·
     intro c hc ih2
     refine lgo (y := (((c + 1 : Nat) : Int), Xf9 p x y (8 * r + (c + 1)))) ?_ ih2
     unfold Xa4
     simp only
     rw [syA, wkA (e := x + (c : Int)), wkA (e := y + (r : Int)), Xmy ok, Xaf, Xd6 (by rw [Xdw]; simp only [List.length_singleton]; omega), wkA (e := (c : Int) + 1)]
     have e2 : Xkm p (x + (c : Int)) (y + (r : Int)) = Xoc p x y (8 * r + c) := by
      unfold Xoc
      rw [show (8 * r + c) % 8 = c by omega, show (8 * r + c) / 8 = r by omega]
     rw [e2, ← Xlp]
     rfl
   have i0 := inner 0 (by omega)
   rw [syA]
   refine (Xqi i0).trans ?_
   rw [wkA (e := (r : Int) + 1)]
   rfl
 have := key 0 (by omega)
 exact (Xqi this).trans rfl
theorem Xeb {p : Pic} (ok : Xc1 p = true) (x y : Int) (hx : -1000 ≤ x ∧ x ≤ 1000) (hy : -1000 ≤ y ∧ y ≤ 1000) : Xbo p x y = some (Xf9 p x y 64) := by
 unfold Xbo
 rw [Xfm, Xaf, ok, Xlb, Xak, Xaf, syA, Xak, Xaf, Xaf, decide_eq_true (by omega), Bool.not_true, Xmn, Xfr ok x y hx hy]
 rfl
def Xq1 (x : Int) : Int := if x < 0 then -x else x
def Xd9 (a b : List Int) : Nat → Int
 | 0 => 0
 | n + 1 => Xd9 a b n + Xq1 (a.getD n 0 - b.getD n 0)
theorem Xbn {a b : List Int} (ha : Xcv a = true) (hb : Xcv b = true) : ∀ n : Nat, n ≤ 64 → 0 ≤ Xd9 a b n ∧ Xd9 a b n ≤ 255 * n
 | 0, _ => by simp [Xd9]
 | n + 1, h => by
  have ih := Xbn ha hb n (by omega)
  have p := (Xbv ha).2 n (by omega)
  have q := (Xbv hb).2 n (by omega)
  simp only [Xd9, Xq1]
  split <;> omega
theorem Xih {a b : List Int} (ha : Xcv a = true) (hb : Xcv b = true) : Xem a b = some (Xd9 a b 64) := by
 unfold Xem
 have la := (Xbv ha).1
 have lb := (Xbv hb).1
 have key : ∀ i : Nat, i ≤ 64 → loop (Xdc a b) (Xd9 a b i, (i : Int)) = some (Xd9 a b 64) := by
  refine Xkn _ ?_ ?_
  ·
   exact Xm4 (by unfold Xdc; rw [Xde (by simp only; omega)])
  ·
   intro i hi ih
   refine lgo (y := (Xd9 a b (i + 1), ((i + 1 : Nat) : Int))) ?_ ih
   have p := (Xbv ha).2 i hi
   have q := (Xbv hb).2 i hi
   have g := Xbn ha hb i (by omega)
   unfold Xdc Xfu
   simp only [Int.toNat_natCast]
   rw [syA, rqA, rqA, wkA (e := a.getD i 0 - b.getD i 0), wkA (e := 0 - (a.getD i 0 - b.getD i 0)), Xaf]
   have e : (if 0 - (a.getD i 0 - b.getD i 0) > a.getD i 0 - b.getD i 0 then 0 - (a.getD i 0 - b.getD i 0) else a.getD i 0 - b.getD i 0) = Xq1 (a.getD i 0 - b.getD i 0) := by
    unfold Xq1; split <;> split <;> omega
   have ab : 0 ≤ Xq1 (a.getD i 0 - b.getD i 0) ∧ Xq1 (a.getD i 0 - b.getD i 0) ≤ 255 := by unfold Xq1; split <;> omega
   rw [e, wkA (e := Xd9 a b i + Xq1 (a.getD i 0 - b.getD i 0)), wkA (e := (i : Int) + 1)]
   rfl
 exact (Xqi (key 0 (by omega))).trans rfl
theorem Xlt {l : List Int} (h : Xcv l = true) : (l.all (fun x => decide (-1000 ≤ x ∧ x ≤ 1000)) && ((l.length : Int) == 64)) = true := by
 simp only [Xcv, Bool.and_eq_true, decide_eq_true_eq] at h
 simp only [Bool.and_eq_true, beq_iff_eq]
 refine ⟨List.all_eq_true.2 fun x hx => ?_, by omega⟩
 have := List.all_eq_true.1 h.2 x hx
 simp only [Xql, decide_eq_true_eq] at this ⊢
 omega
theorem Xfk {a b : List Int} (ha : Xcv a = true) (hb : Xcv b = true) : Xc5 a b = some (Xd9 a b 64) := by
 have la := (Xbv ha).1
 have lb := (Xbv hb).1
 unfold Xc5
 rw [show (-1000 : Int) = -1000 from rfl, Xd1 a _ _ _ (by omega), Xaf, Xlt ha, Xlb, Xd1 b _ _ _ (by omega), Xaf, Xlt hb, Xaf, Bool.not_true, Xmn, Xih ha hb]
 rfl
theorem Xif (l : List Int) (hl : l.length ≤ 9223372036854775806) : Xbq l 64 0 255 = some (Xcv l) := by
 rw [Xd1 l _ _ _ hl]
 have : ((l.length : Int) == 64) = decide (l.length = 64) := by rw [Bool.eq_iff_iff]; simp only [beq_iff_eq, decide_eq_true_eq]; omega
 rw [this, Bool.and_comm]
 rfl
def Xna (d : Int) : Int := ((seL d).length : Int)
theorem Xcf (d : Int) (h : -500000 ≤ d ∧ d ≤ 500000) : Xba d = some (Xna d) := by
 unfold Xba Xna
 rw [Xkr d h, Xaf, strOfNums_size]
theorem Xc7 (d : Int) (h : -500000 ≤ d ∧ d ≤ 500000) : 1 ≤ Xna d ∧ Xna d ≤ 39 := by
 unfold Xna seL
 have := Xr5 (Xlx d) (Xnq d h)
 omega
theorem Xpz : Xna 0 = 1 := by
 have : Xlx 0 = 0 := by simp [Xlx]
 unfold Xna seL ueL
 rw [this, List.length_append, Xnk]
 simp [Xh6]
theorem Xi6 (c : Xap) (n : Int) (hc : Xdj c) (h0 : 0 ≤ n) (h1 : n ≤ 100000) : ∃ s c', Xcp c n = some (s, c') ∧ (s.size : Int) = n ∧ Xdj c' := by
 have hm : maxLen = 9223372036854775807 := rfl
 unfold Xcp
 obtain ⟨z, c0, ez, z0, z1, hz⟩ := Xax c hc
 rw [ez, Xaf]
 simp only
 obtain ⟨o, h, h2, h3⟩ := Xd2 (f := Xb4 n) (fun v => (0 ≤ v.1 ∧ v.1 ≤ 255) ∧ 0 ≤ v.2.1 ∧ v.2.1 ≤ n ∧ Xdj ⟨v.2.2.1, v.2.2.2.1, v.2.2.2.2.1⟩ ∧ (v.2.2.2.2.2.length : Int) = v.2.1) (fun v => (n - v.2.1).toNat) (fun _ o => (o.1.length : Int) = n ∧ Xdj ⟨o.2.1, o.2.2.1, o.2.2.2⟩) (by
  intro ⟨w, i, b, j, h, l⟩ ⟨hw, h1, h2, h3, h4⟩
  unfold Xb4
  simp only at hw h1 h2 h3 h4 ⊢
  by_cases hi : i < n
  ·
   rw [Xcu hi]
   obtain ⟨x, c', ex, x0, x1, _, hx⟩ := Xao _ 6 h3
   rw [ex, Xaf]
   simp only
   have step : ∃ w' c2, (sel (x == 0) (bnd (Xar c') fun q16 => some (q16.1, q16.2.b_, q16.2.i_, q16.2.h_)) (sel (x == 1) (bnd (Xai c' 9) fun q17 => some ((IntKind.wrap .i64 (BitVec.ofInt (IntKind.bits .i64) (Xaa .i64 ((Xaa .i64 (w + q17.1)) + 252)) &&& BitVec.ofInt (IntKind.bits .i64) 255).toNat), q17.2.b_, q17.2.i_, q17.2.h_)) (some (w, c'.b_, c'.i_, c'.h_)))) = some (w', c2.b_, c2.i_, c2.h_) ∧ (0 ≤ w' ∧ w' ≤ 255) ∧ Xdj c2 := by
    cases e0 : (x == 0) with
    | true =>
     obtain ⟨y, c2, ey, y0, y1, hy⟩ := Xax c' hx
     rw [Xlb, ey, Xaf]
     exact ⟨y, c2, rfl, ⟨y0, y1⟩, hy⟩
    | false =>
     rw [Xmn]
     cases e1 : (x == 1) with
     | true =>
      obtain ⟨y, c2, ey, y0, y1, _, hy⟩ := Xao c' 9 hx
      rw [Xlb, ey, Xaf]
      exact ⟨_, c2, rfl, Xh0 _, hy⟩
     | false => rw [Xmn]; exact ⟨w, c', rfl, hw, hx⟩
   obtain ⟨w', c2, es, hw', hc2⟩ := step
   rw [es, Xaf, Xd6 (by rw [hm]; simp only [List.length_singleton]; omega)]
   refine .inr ⟨_, rfl, ?_, ?_, fun _ h => h⟩
   ·
    simp only
    rw [wkA (e := i + 1)]
    exact ⟨hw', by omega, by omega, hc2, by simp; omega⟩
   ·
    simp only; rw [wkA (e := i + 1)]; omega
  ·
   rw [Xde hi]
   exact .inl ⟨_, rfl, by simp only; omega, h3⟩) (z, 0, c0.b_, c0.i_, c0.h_, []) ⟨⟨z0, z1⟩, by simp, h0, hz, by simp⟩
 rw [h, Xaf]
 exact ⟨_, _, rfl, by rw [strOfNums_size]; exact h2, h3⟩
theorem Xhp (c : Xap) (w h : Int) (hc : Xdj c) (hw : 1 ≤ w ∧ w ≤ 256) (hh : 1 ≤ h ∧ h ≤ 256) : ∃ p c', Xb5 c w h = some (p, c') ∧ p.Wide = w ∧ p.High = h ∧ Xc1 p = true ∧ Xdj c' := by
 have a := Xdn hw hh
 unfold Xb5
 rw [wkA (e := w * h)]
 obtain ⟨s, c', e, hs, hc'⟩ := Xi6 c (w * h) hc (by omega) (by omega)
 rw [e, Xaf]
 exact ⟨_, _, rfl, rfl, rfl, Xn3 hw hh hs, hc'⟩
theorem Xf8 (c : Xap) (hc : Xdj c) : ∃ p c', Xbe c = some (p, c') ∧ (p.Wide = 8 ∨ p.Wide = 16) ∧ (p.High = 8 ∨ p.High = 16) ∧ Xc1 p = true ∧ Xdj c' := by
 unfold Xbe
 obtain ⟨x, c1, e1, x0, x1, _, h1⟩ := Xao c 2 hc
 obtain ⟨y, c2, e2, y0, y1, _, h2⟩ := Xao c1 2 h1
 have x1' := x1 (by omega)
 have y1' := y1 (by omega)
 rw [e1, Xaf]
 simp only
 rw [e2, Xaf]
 simp only
 rw [wkA (e := 8 * x), wkA (e := 8 + 8 * x), wkA (e := 8 * y), wkA (e := 8 + 8 * y)]
 obtain ⟨p, c3, e3, pw, ph, ok, h3⟩ := Xhp c2 (8 + 8 * x) (8 + 8 * y) h2 (by omega) (by omega)
 rw [e3, Xaf]
 exact ⟨_, _, rfl, by simp only; omega, by simp only; omega, ok, h3⟩
theorem Xi8 (c : Xap) (p : Pic) (hc : Xdj c) (ok : Xc1 p = true) : ∃ q c', Xcq c p = some (q, c') ∧ q.Wide = p.Wide ∧ q.High = p.High ∧ Xc1 q = true ∧ Xdj c' := by
 have hm : maxLen = 9223372036854775807 := rfl
 obtain ⟨k1, k2, k3⟩ := Xbl ok
 have ar := Xdn k1 k2
 unfold Xcq
 obtain ⟨x, c1, e1, x0, x1, _, h1⟩ := Xao c 7 hc
 obtain ⟨y, c2, e2, y0, y1, _, h2⟩ := Xao c1 5 h1
 obtain ⟨z, c3, e3, h3⟩ := Xi4 c2 3 h2
 have x1' := x1 (by omega)
 have y1' := y1 (by omega)
 rw [e1, Xaf]
 simp only
 rw [e2, Xaf]
 simp only
 rw [e3, Xaf]
 simp only
 rw [wkA (e := x - 3), wkA (e := y - 2)]
 have hv : ∃ a b : Int, (-10 ≤ a ∧ a ≤ 10) ∧ (-10 ≤ b ∧ b ≤ 10) ∧ sel z (some ((0 : Int), (0 : Int), c3.b_, c3.i_, c3.h_)) (some (x - 3, y - 2, c3.b_, c3.i_, c3.h_)) = some (a, b, c3.b_, c3.i_, c3.h_) := by
  cases z with
  | true => exact ⟨0, 0, by omega, by omega, rfl⟩
  | false => exact ⟨x - 3, y - 2, by omega, by omega, rfl⟩
 obtain ⟨a, b, ha, hb, hv⟩ := hv
 rw [hv, Xaf]
 obtain ⟨o, h, ho⟩ := Xd2 (f := Xb6 p (a, b, c3.b_, c3.i_, c3.h_)) (fun v => 0 ≤ v.1 ∧ v.1 ≤ (p.Dots.size : Int) ∧ (v.2.length : Int) = v.1) (fun v => ((p.Dots.size : Int) - v.1).toNat) (fun _ o => (o.length : Int) = (p.Dots.size : Int)) (by
  intro ⟨i, l⟩ ⟨g1, g2, g3⟩
  unfold Xb6
  simp only at g1 g2 g3 ⊢
  by_cases hi : i < (p.Dots.size : Int)
  ·
   rw [Xcu hi, rqA, rqA, Xf2 ok, Xaf, Xd6 (by rw [hm]; simp only [List.length_singleton]; omega), wkA (e := i + 1)]
   exact .inr ⟨_, rfl, ⟨by simp only; omega, by simp only; omega, by simp; omega⟩, by simp only; omega, fun _ h => h⟩
  ·
   rw [Xde hi]
   exact .inl ⟨_, rfl, by omega⟩) (0, []) ⟨by simp, by simp, by simp⟩
 rw [h, Xaf]
 obtain ⟨o2, h', g1, g2⟩ := Xd2 (f := Xb7) (fun v => 0 ≤ v.1 ∧ v.1 ≤ 6 ∧ Xdj ⟨v.2.1, v.2.2.1, v.2.2.2.1⟩ ∧ (v.2.2.2.2.length : Int) = p.Dots.size) (fun v => (6 - v.1).toNat) (fun _ o => (o.1.length : Int) = p.Dots.size ∧ Xdj ⟨o.2.1, o.2.2.1, o.2.2.2⟩) (by
  intro ⟨i, b, j, h, l⟩ ⟨g1, g2, g3, g4⟩
  unfold Xb7
  simp only at g1 g2 g3 g4 ⊢
  obtain ⟨x, c', ex, x0, x1, _, hx⟩ := Xao _ 6 g3
  have x1' := x1 (by omega)
  rw [ex, Xaf]
  simp only
  by_cases hi : i < x
  ·
   obtain ⟨y, c2, ey, y0, y1, _, hy⟩ := Xao c' l.length hx
   have y1' := y1 (by omega)
   obtain ⟨z, c3, ez, z0, z1, hz⟩ := Xax c2 hy
   rw [Xcu hi, ey, Xaf]
   simp only
   rw [ez, Xaf]
   simp only
   rw [rqA, rqA, wkA (e := i + 1)]
   exact .inr ⟨_, rfl, ⟨by simp only; omega, by simp only; omega, hz, by simp only [List.length_set]; omega⟩, by simp only; omega, fun _ h => h⟩
  ·
   rw [Xde hi]
   exact .inl ⟨_, rfl, g4, hx⟩) (0, c3.b_, c3.i_, c3.h_, o) ⟨by simp, by simp, h3, by simp only; omega⟩
 rw [h', Xaf]
 refine ⟨_, _, rfl, rfl, rfl, Xn3 k1 k2 ?_, g2⟩
 simp only
 rw [strOfNums_size]; omega
theorem Xhh (b : List Int) (hb : b.length ≤ 1048576) : ∃ p q, Xb3 b = some (p, q) ∧ (p.Wide = 8 ∨ p.Wide = 16) ∧ (p.High = 8 ∨ p.High = 16) ∧ Xc1 p = true ∧ q.Wide = p.Wide ∧ q.High = p.High ∧ Xc1 q = true := by
 unfold Xb3
 obtain ⟨c, e, hc⟩ := Xe1 b hb
 obtain ⟨p, c1, e1, pw, ph, ok, h1⟩ := Xf8 c hc
 obtain ⟨q, c2, e2, qw, qh, ok2, _⟩ := Xi8 c1 p h1 ok
 rw [e, Xaf, e1, Xaf]
 simp only
 rw [e2, Xaf]
 exact ⟨_, _, rfl, pw, ph, ok, qw, qh, ok2⟩
def Xdh (p : Pic) (x y : Int) : Bool := decide (0 ≤ x ∧ x ≤ p.Wide - 8 ∧ 0 ≤ y ∧ y ≤ p.High - 8)
theorem Xl6 {p : Pic} (ok : Xc1 p = true) (x y : Int) : Xbi p ⟨x, y, 8, 8⟩ = some (Xdh p x y) := by
 obtain ⟨k1, k2, k3⟩ := Xbl ok
 unfold Xbi Xdh
 simp only
 rw [Xak, Xaf, Xak, Xaf, wkA (e := p.Wide - 8), wkA (e := p.High - 8), Xak, Xaf, Xak, Xaf]
 simp only [Xla, Xaf]
 congr 1
 rw [Bool.eq_iff_iff]
 simp only [Bool.and_eq_true, decide_eq_true_eq]
 omega
theorem Xg9 {p : Pic} (ok : Xc1 p = true) (x y : Int) (hx : x.tmod 8 = 0) (hy : y.tmod 8 = 0) (h : Xdh p x y = true) : Xa5 p x y = some true := by
 obtain ⟨k1, k2, k3⟩ := Xbl ok
 unfold Xdh at h
 rw [decide_eq_true_eq] at h
 unfold Xa5
 rw [rqA, hx, rqA, hy, wkA (e := p.Wide - 8), wkA (e := p.High - 8), Xak, Xaf, Xak, Xaf, decide_eq_true (by omega), decide_eq_true (by omega)]
 rfl
def Xb1 (p : Pic) (w : List Int) (x y dx dy : Int) : Int := Xd9 w (Xf9 p (x + dx) (y + dy) 64) 64 + Xna dx + Xna dy
def BmI (p : Pic) (w : List Int) (x y r : Int) (past : Bool) (b : Int × Int × Int) : Prop :=
 (b = (0, 0, -1) ∧ past = false) ∨
 ((-r ≤ b.1 ∧ b.1 ≤ r) ∧ (-r ≤ b.2.1 ∧ b.2.1 ≤ r) ∧ Xdh p (x + b.1) (y + b.2.1) = true ∧ b.2.2 = Xb1 p w x y b.1 b.2.1 ∧ (past = true → b.2.2 ≤ Xb1 p w x y 0 0))
theorem Xey {p : Pic} {w : List Int} (hw : Xcv w = true) (x y dx dy : Int) (hx : -100 ≤ dx ∧ dx ≤ 100) (hy : -100 ≤ dy ∧ dy ≤ 100) : 2 ≤ Xb1 p w x y dx dy ∧ Xb1 p w x y dx dy ≤ 20000 := by
 have g := Xbn hw (Xda p (x + dx) (y + dy)) 64 (by omega)
 have a := Xc7 dx (by omega)
 have b := Xc7 dy (by omega)
 unfold Xb1; omega
theorem Xrl {p : Pic} {w : List Int} {x y r : Int} (ok : Xc1 p = true) (hw : Xcv w = true) (hr : 0 ≤ r ∧ r ≤ 4) (h0 : Xdh p x y = true) (s : Int × Int × Int × Int) (hs : -r ≤ s.2.2.2 ∧ s.2.2.2 ≤ r) (v : Int × Int × Int × Int) (hv : -r ≤ v.2.2.2 ∧ v.2.2.2 ≤ r)
  (past : Bool) (hi : BmI p w x y r past (v.1, v.2.1, v.2.2.1)) (hp : past = true ↔ (s.2.2.2 > 0 ∨ (s.2.2.2 = 0 ∧ v.2.2.2 > 0))) :
  ∃ b, Xa0 p w x y r s v = some (.go (b.1, b.2.1, b.2.2, v.2.2.2 + 1)) ∧ BmI p w x y r (decide (s.2.2.2 > 0 ∨ (s.2.2.2 = 0 ∧ v.2.2.2 + 1 > 0))) b := by
 obtain ⟨k1, k2, k3⟩ := Xbl ok
 have h0' := h0
 unfold Xdh at h0'
 rw [decide_eq_true_eq] at h0'
 unfold Xa0
 rw [Xcu hv.2, wkA (e := x + v.2.2.2), wkA (e := y + s.2.2.2), wkA (e := v.2.2.2 + 1), Xl6 ok, Xaf]
 cases hh : Xdh p (x + v.2.2.2) (y + s.2.2.2) with
 | false =>
  refine ⟨(v.1, v.2.1, v.2.2.1), rfl, ?_⟩
  have ne : ¬ (s.2.2.2 = 0 ∧ v.2.2.2 = 0) := by
   intro ⟨e1, e2⟩
   rw [e1, e2, Int.add_zero, Int.add_zero, h0] at hh
   cases hh
  rcases hi with ⟨h1, h2⟩ | ⟨h1, h2, h3, h4, h5⟩
  ·
   refine .inl ⟨h1, ?_⟩
   rw [decide_eq_false_iff_not]
   intro h
   have := hp.2 (by omega)
   rw [h2] at this; cases this
  ·
   refine .inr ⟨h1, h2, h3, h4, fun h => h5 (hp.2 ?_)⟩
   rw [decide_eq_true_eq] at h
   omega
 | true =>
  have hh' := hh
  unfold Xdh at hh'
  rw [decide_eq_true_eq] at hh'
  have hb := Xda p (x + v.2.2.2) (y + s.2.2.2)
  have g := Xbn hw hb 64 (by omega)
  have z1 := Xc7 v.2.2.2 (by omega)
  have z2 := Xc7 s.2.2.2 (by omega)
  rw [Bool.not_true, Xmn, Xfr ok _ _ (by omega) (by omega), Xaf, Xih hw hb, Xaf, Xcf _ (by omega), Xaf, Xcf _ (by omega), Xaf, wkA (e := Xd9 w (Xf9 p (x + v.2.2.2) (y + s.2.2.2) 64) 64 + Xna v.2.2.2), wkA, Xrc, Xaf]
  have mc : Xd9 w (Xf9 p (x + v.2.2.2) (y + s.2.2.2) 64) 64 + Xna v.2.2.2 + Xna s.2.2.2 = Xb1 p w x y v.2.2.2 s.2.2.2 := rfl
  rw [mc]
  have m1 := Xey (p := p) (w := w) hw x y v.2.2.2 s.2.2.2 (by omega) (by omega)
  cases hc : (decide (v.2.2.1 < 0) || decide (Xb1 p w x y v.2.2.2 s.2.2.2 < v.2.2.1)) with
  | true =>
   refine ⟨(v.2.2.2, s.2.2.2, Xb1 p w x y v.2.2.2 s.2.2.2), rfl, .inr ⟨hv, hs, hh, rfl, fun h => ?_⟩⟩
   rw [decide_eq_true_eq] at h
   by_cases e0 : s.2.2.2 = 0 ∧ v.2.2.2 = 0
   ·
    rw [e0.1, e0.2]; exact Int.le_refl _
   ·
    have hpast := hp.2 (by omega)
    rcases hi with ⟨h1, h2⟩ | ⟨h1, h2, h3, h4, h5⟩
    ·
     rw [h2] at hpast; cases hpast
    ·
     have h5' := h5 hpast
     simp only at h4 h5' ⊢
     have n1 := Xey (p := p) (w := w) hw x y v.1 v.2.1 (by simp only at h1; omega) (by simp only at h2; omega)
     simp only [Bool.or_eq_true, decide_eq_true_eq] at hc
     omega
  | false =>
   refine ⟨(v.1, v.2.1, v.2.2.1), rfl, ?_⟩
   simp only [Bool.or_eq_false_iff, decide_eq_false_iff_not] at hc
   rcases hi with ⟨h1, h2⟩ | ⟨h1, h2, h3, h4, h5⟩
   ·
    simp only [Prod.mk.injEq] at h1
    omega
   ·
    refine .inr ⟨h1, h2, h3, h4, fun h => ?_⟩
    rw [decide_eq_true_eq] at h
    by_cases e0 : s.2.2.2 = 0 ∧ v.2.2.2 = 0
    ·
     have := hc.2
     rw [e0.1, e0.2] at this
     simp only; omega
    ·
     exact h5 (hp.2 (by omega))
theorem Xg2 {p : Pic} {w : List Int} {x y r : Int} (ok : Xc1 p = true) (hw : Xcv w = true) (hr : 0 ≤ r ∧ r ≤ 4) (hx : x.tmod 8 = 0) (hy : y.tmod 8 = 0) (h0 : Xdh p x y = true) :
  ∃ b, Xbw p w x y r = some b ∧ (-r ≤ b.1 ∧ b.1 ≤ r) ∧ (-r ≤ b.2.1 ∧ b.2.1 ≤ r) ∧ Xdh p (x + b.1) (y + b.2.1) = true ∧ b.2.2 = Xb1 p w x y b.1 b.2.1 ∧ b.2.2 ≤ Xb1 p w x y 0 0 := by
 have hwl := (Xbv hw).1
 unfold Xbw
 rw [Xfm, Xaf, ok, Xlb, Xif w (by omega), Xaf, hw, Xlb, Xak, Xaf, decide_eq_true (by omega), Xlb, Xg9 ok x y hx hy h0, Xaf, Bool.not_true, Xaf, Xmn, wkA (e := 0 - r)]
 obtain ⟨o, h, ho⟩ := Xd2 (f := Xbf p w x y r) (fun s => -r ≤ s.2.2.2 ∧ s.2.2.2 ≤ r + 1 ∧ BmI p w x y r (decide (s.2.2.2 > 0)) (s.1, s.2.1, s.2.2.1)) (fun s => (r + 1 - s.2.2.2).toNat) (fun _ b => BmI p w x y r true b) (by
  intro s ⟨g1, g2, g3⟩
  unfold Xbf
  by_cases hi : s.2.2.2 ≤ r
  ·
   rw [Xcu hi, wkA (e := s.2.2.2 + 1), wkA (e := 0 - r)]
   obtain ⟨o, h, ho⟩ := Xd2 (f := Xa0 p w x y r s) (fun v => -r ≤ v.2.2.2 ∧ v.2.2.2 ≤ r + 1 ∧ BmI p w x y r (decide (s.2.2.2 > 0 ∨ (s.2.2.2 = 0 ∧ v.2.2.2 > 0))) (v.1, v.2.1, v.2.2.1)) (fun v => (r + 1 - v.2.2.2).toNat) (fun _ b => BmI p w x y r (decide (s.2.2.2 + 1 > 0)) b) (by
    intro v ⟨f1, f2, f3⟩
    by_cases hv : v.2.2.2 ≤ r
    ·
     obtain ⟨b, e, hb⟩ := Xrl ok hw hr h0 s ⟨g1, hi⟩ v ⟨f1, hv⟩ _ f3 (by rw [decide_eq_true_eq])
     exact .inr ⟨_, e, ⟨by simp only; omega, by simp only; omega, hb⟩, by simp only; omega, fun _ h => h⟩
    ·
     refine .inl ⟨(v.1, v.2.1, v.2.2.1), ?_, ?_⟩
     ·
      unfold Xa0; rw [Xde hv]
     ·
      have : decide (s.2.2.2 > 0 ∨ (s.2.2.2 = 0 ∧ v.2.2.2 > 0)) = decide (s.2.2.2 + 1 > 0) := by
       rw [decide_eq_decide]; omega
      rw [this] at f3
      exact f3) (s.1, s.2.1, s.2.2.1, 0 - r) ⟨by simp only; omega, by simp only; omega, by
    have : decide (s.2.2.2 > 0 ∨ (s.2.2.2 = 0 ∧ 0 - r > 0)) = decide (s.2.2.2 > 0) := by rw [decide_eq_decide]; omega
    simp only
    rw [this]; exact g3⟩
   rw [h, Xaf]
   exact .inr ⟨_, rfl, ⟨by simp only; omega, by simp only; omega, ho⟩, by simp only; omega, fun _ h => h⟩
  ·
   rw [Xde hi]
   refine .inl ⟨_, rfl, ?_⟩
   rw [decide_eq_true (by omega)] at g3
   exact g3) (0, 0, -1, 0 - r) ⟨by simp only; omega, by simp only; omega, .inl ⟨rfl, by simp only [decide_eq_false_iff_not]; omega⟩⟩
 rw [h, Xaf]
 rcases ho with ⟨_, h2⟩ | ⟨h1, h2, h3, h4, h5⟩
 ·
  cases h2
 ·
  exact ⟨_, rfl, h1, h2, h3, h4, h5 rfl⟩
theorem FnBestMove {p0 : List Int} (h0 : p0.length ≤ maxLen ∧ ∀ y ∈ p0, (Lit.int .u8 y).wf = true) : Xb0 p0 = some true := by
 have hm : maxLen = 9223372036854775807 := rfl
 unfold Xb0
 rw [Xm3, Xaf]
 by_cases hb : (p0.length : Int) > 1048576
 ·
  rw [Xcu hb]
 rw [Xde hb]
 obtain ⟨p, q, e, pw, ph, ok, qw, qh, ok2⟩ := Xhh p0 (by omega)
 obtain ⟨l, el, ll, lb⟩ := Xf4 p0 (by omega)
 rw [e, Xaf, el, Xaf]
 simp only
 have at_ : ∀ i : Nat, i < 12 → 0 ≤ l.getD i 0 ∧ l.getD i 0 < 10000 := fun i hi => lb _ (by rw [Xpc l i (by omega)]; exact List.getElem_mem _)
 have a0 := at_ 0 (by omega)
 have a1 := at_ 1 (by omega)
 have a2 := at_ 2 (by omega)
 rw [show ((0 : Int).toNat) = 0 from rfl, show ((1 : Int).toNat) = 1 from rfl, show ((2 : Int).toNat) = 2 from rfl]
 generalize l.getD 0 0 = u at *
 generalize l.getD 1 0 = v at *
 generalize l.getD 2 0 = t at *
 have dw : Xaa .i64 (p.Wide.tdiv 8) = p.Wide / 8 := by rw [Xlg (by omega), wkA]
 have dh : Xaa .i64 (p.High.tdiv 8) = p.High / 8 := by rw [Xlg (by omega), wkA]
 rw [dw, dh]
 have um : 0 ≤ u.tmod (p.Wide / 8) ∧ 8 * u.tmod (p.Wide / 8) ≤ p.Wide - 8 := by
  rw [Xc4 a0.1]
  have := Int.emod_nonneg u (show p.Wide / 8 ≠ 0 by omega)
  have := Int.emod_lt_of_pos u (show 0 < p.Wide / 8 by omega)
  omega
 have vm : 0 ≤ v.tmod (p.High / 8) ∧ 8 * v.tmod (p.High / 8) ≤ p.High - 8 := by
  rw [Xc4 a1.1]
  have := Int.emod_nonneg v (show p.High / 8 ≠ 0 by omega)
  have := Int.emod_lt_of_pos v (show 0 < p.High / 8 by omega)
  omega
 have tm : 0 ≤ t.tmod 4 ∧ t.tmod 4 ≤ 3 := by rw [Xc4 a2.1]; omega
 rw [rqA, rqA, rqA, rqA, rqA, rqA, rqA, rqA]
 generalize u.tmod (p.Wide / 8) = x' at *
 generalize v.tmod (p.High / 8) = y' at *
 generalize t.tmod 4 = r at *
 rw [wkA (e := 8 * x'), wkA (e := 8 * y')]
 have hx : (8 * x').tmod 8 = 0 := by rw [Xc4 (by omega)]; omega
 have hy : (8 * y').tmod 8 = 0 := by rw [Xc4 (by omega)]; omega
 have hx0 : 0 ≤ 8 * x' := by omega
 have hy0 : 0 ≤ 8 * y' := by omega
 generalize 8 * x' = x at *
 generalize 8 * y' = y at *
 have held : Xdh p x y = true := by unfold Xdh; rw [decide_eq_true_eq]; omega
 have hd := Xda q x y
 rw [Xi0 ok2 x y (by omega) (by omega), Xaf, List.nil_append, Xdw, Xd6 (by simp only [List.length_nil]; omega), rqA, rqA, rqA]
 obtain ⟨b, eb, b1, b2, b3, b4, b5⟩ := Xg2 (r := r) ok hd (by omega) hx hy held
 have b3' := b3
 unfold Xdh at b3'
 rw [decide_eq_true_eq] at b3'
 rw [eb, Xaf, Xd6 (by simp only [List.length_nil]; omega), wkA (e := x + b.1), wkA (e := y + b.2.1), Xeb ok _ _ (by omega) (by omega), Xaf, Xfk hd (Xda _ _ _), Xaf, Xcf _ (by omega), Xaf, Xcf _ (by omega), Xaf, Xd6 (by simp only [List.length_nil]; omega), Xeb ok _ _ (by omega) (by omega), Xaf, Xfk hd (Xda _ _ _), Xaf]
 have g1 := Xbn hd (Xda p (x + b.1) (y + b.2.1)) 64 (by omega)
 have g2 := Xbn hd (Xda p x y) 64 (by omega)
 have z1 := Xc7 b.1 (by omega)
 have z2 := Xc7 b.2.1 (by omega)
 have b5' := b5
 unfold Xb1 at b4 b5'
 rw [Xpz, Int.add_zero, Int.add_zero] at b5'
 rw [wkA (e := Xd9 (Xf9 q x y 64) (Xf9 p (x + b.1) (y + b.2.1) 64) 64 + Xna b.1), wkA (e := Xd9 (Xf9 q x y 64) (Xf9 p (x + b.1) (y + b.2.1) 64) 64 + Xna b.1 + Xna b.2.1), wkA (e := Xd9 (Xf9 q x y 64) (Xf9 p x y 64) 64 + 2), wkA (e := 0 - r), wkA (e := x + b.1 + 8), wkA (e := y + b.2.1 + 8)]
 rw [Xnb (by simp only [beq_iff_eq]; omega), syA, syA, rqA, rqA, rqA, syA, rqA, rqA, rqA, syA, rqA, rqA, rqA, syA, rqA, rqA, rqA, syA, syA, syA, syA, Xaf, decide_eq_true (by omega)]
end Go.Proofs.Ytlebkepfhdjnmab.A.Pure
