/- The pure statement of the law FnInOrder: over numbers, texts and lists alone, what the law computes is true. Conditions: the sizes of what a machine holds. -/
import Derived.Test.YtlebkepfhdjnmadGreatDFnInOrder
namespace Go.Proofs.YtlebkepfhdjnmadGreat.A.Pure
open Go Go.Proofs Go.Proofs.YtlebkepfhdjnmadGreatAL Go.RowKit
set_option linter.unusedVariables false
set_option linter.unusedSimpArgs false
set_option maxHeartbeats 1000000
theorem Xad {α β : Type} (a : α) (f : α → Option β) : bnd (some a) f = f a := rfl
theorem Xjr {α β : Type} {x : Option α} {a : α} {f : α → Option β} (h : x = some a) : bnd x f = f a := by subst h; rfl
theorem Xbi {β : Type} (x y : β) : sel true x y = x := rfl
theorem Xbf {β : Type} (x y : β) : sel false x y = y := rfl
theorem Xzl {β : Type} (b : Bool) (x y : β) : sel (!b) x y = sel b y x := by cases b <;> rfl
theorem Xc9 (b x : Bool) : sel b (some x) (some false) = some (b && x) := by cases b <;> rfl
theorem Xrs (b x : Bool) : sel b (some true) (some x) = some (b || x) := by cases b <;> rfl
theorem Xki (b x : Bool) : sel b (some x) (some true) = some (!b || x) := by cases b <;> rfl
theorem Yn8 (b x : Bool) : sel b (some false) (some x) = some (!b && x) := by cases b <;> rfl
theorem Xzm {β : Type} (b : Bool) (x y : β) : sel b (some x) (some y) = some (sel b x y) := by cases b <;> rfl
theorem Ye0 {β : Type} (b : Bool) (x y : β) : sel b x y = if b = true then x else y := by cases b <;> rfl
theorem Yme {β : Type} (p : Prop) [Decidable p] (x y : β) : sel (decide p) x y = if p then x else y := by
 by_cases h : p <;> simp [h, sel]
theorem Xa8 {β : Type} {b : Bool} {x y : β} (h : b = true) : sel b x y = x := by subst h; rfl
theorem Xa5 {β : Type} {b : Bool} {x y : β} (h : b = false) : sel b x y = y := by subst h; rfl
theorem Xbh {β : Type} {p : Prop} [Decidable p] {x y : β} (h : p) : sel (decide p) x y = x := by simp [h, sel]
theorem Xay {β : Type} {p : Prop} [Decidable p] {x y : β} (h : ¬ p) : sel (decide p) x y = y := by simp [h, sel]
theorem Xa4 {β : Type} {c : Prop} [Decidable c] {k : Option β} (h : c) : req c k = k := if_pos h
theorem wk {e : Int} (h1 : -9223372036854775808 ≤ e) (h2 : e ≤ 9223372036854775807) : Xaa .i64 e = e := by
 show wrap64 e = e
 unfold wrap64; omega
theorem rqA {β : Type} {c : Prop} [Decidable c] {k : Option β} (h : c := by omega) : req c k = k := Xa4 h
theorem syA {β : Type} {c : Prop} [Decidable c] {x y : β} (h : c := by omega) : sel (decide c) x y = x := Xbh h
theorem snA {β : Type} {c : Prop} [Decidable c] {x y : β} (h : ¬ c := by omega) : sel (decide c) x y = y := Xay h
theorem wkA {e : Int} (h1 : -9223372036854775808 ≤ e := by omega) (h2 : e ≤ 9223372036854775807 := by omega) : Xaa .i64 e = e := wk h1 h2
theorem w8 {e : Int} (h1 : 0 ≤ e) (h2 : e ≤ 255) : Xaa .u8 e = e := by
 show IntKind.wrap .u8 e = e
 simp [IntKind.wrap, IntKind.signed, IntKind.bits]; omega
theorem Ysf {n : Int} (h : (Lit.int .i64 n).wf = true) : -9223372036854775808 ≤ n ∧ n ≤ 9223372036854775807 := by
 simp [Lit.wf, IntKind.min, IntKind.max, IntKind.signed, IntKind.bits] at h
 omega
theorem Yl0 : maxLen = 9223372036854775807 := rfl
theorem Xbo {a b : Int} (h : 0 ≤ a) : Int.tmod a b = a % b := Int.tmod_eq_emod_of_nonneg h
theorem Xce {a b : Int} (h : 0 ≤ a) : Int.tdiv a b = a / b := Int.tdiv_eq_ediv_of_nonneg h
theorem Xm0 {P : Nat → Prop} (n : Nat) (h0 : P n) (hs : ∀ i, i < n → P (i + 1) → P i) : ∀ i, i ≤ n → P i := by
 intro i hi
 obtain ⟨k, rfl⟩ : ∃ k, n = i + k := ⟨n - i, by omega⟩
 clear hi
 induction k generalizing i with
 | zero => exact h0
 | succ k ih =>
  refine hs i (by omega) ?_
  exact ih (i + 1) (by rw [show i + 1 + k = i + (k + 1) by omega]; exact h0) (fun j hj => hs j (by omega))
theorem lgo {V O : Type} {f : V → Option (Lp V O)} {x y : V} {r : Option O} (h : f x = some (.go y)) (k : loop f y = r) : loop f x = r := by rw [Xe5 h]; exact k
theorem Xiz {V O : Type} {f : V → Option (Lp V O)} {x : V} {o : O} (h : f x = some (.done o)) : loop f x = some o := Xbu h
theorem Xew {V O : Type} {f : V → Option (Lp V O)} (I : V → Prop) (m : V → Nat) (Q : V → O → Prop) (h : ∀ v, I v → (∃ o, f v = some (.done o) ∧ Q v o) ∨ ∃ v', f v = some (.go v') ∧ I v' ∧ m v' < m v ∧ ∀ o, Q v' o → Q v o) : ∀ v, I v → ∃ o, loop f v = some o ∧ Q v o := by
 intro v
 generalize hn : m v = n
 induction n using Nat.strongRecOn generalizing v with
 | _ n ih =>
  intro hv
  rcases h v hv with ⟨o, h1, h2⟩ | ⟨v', h1, h2, h3, h4⟩
  ·
   exact ⟨o, Xbu h1, h2⟩
  ·
   obtain ⟨o, h5, h6⟩ := ih (m v') (by omega) v' rfl h2
   exact ⟨o, by rw [Xe5 h1]; exact h5, h4 o h6⟩
theorem Xde {α : Type} (l : List α) (i : Nat) (h : i < l.length) (d : α) : l.getD i d = l[i] := by
 simp [List.getD_eq_getElem?_getD, List.getElem?_eq_getElem h]
theorem Yle {α : Type} (l : List α) (i : Nat) (h : i < l.length) (d : α) : l.drop i = l.getD i d :: l.drop (i + 1) := by
 rw [List.drop_eq_getElem_cons h, Xde l i h]
theorem Xcf (a b c : Int) : Xcm a b c = some (decide (b ≤ a ∧ a ≤ c)) := by
 unfold Xcm
 by_cases h : b ≤ a <;> simp [bnd, sel, h]
theorem Xaj (a b c : Int) : Xak a b c = some (decide (b ≤ a ∧ a ≤ c)) := by
 unfold Xak
 by_cases h : b ≤ a <;> simp [bnd, sel, h]
theorem Xg1 (a : Int) : Xb1 a = some (decide (0 ≤ a ∧ a ≤ 65535)) := by
 unfold Xb1; rw [Xcf]; rfl
theorem Ymf {α : Type} (a : List α) (x y : α) (b : List α) : (a ++ x :: b).set a.length y = a ++ y :: b := by
 induction a with
 | nil => rfl
 | cons z a ih => simp only [List.cons_append, List.length_cons, List.set_cons_succ, ih]
theorem Xhz {α : Type} (a : List α) (x d : α) (b : List α) : (a ++ x :: b).getD a.length d = x := by
 induction a with
 | nil => rfl
 | cons z a ih => simp
theorem Xob {f : Int → Option (Lp Int (Ou Unit Bool))} (n : Nat) (h : ∀ i : Nat, i < n → f i = some (.go ((i + 1 : Nat) : Int))) (h0 : f n = some (.done (.out ()))) : loop f 0 = some (.out ()) :=
 Xm0 (P := fun i => loop f (i : Int) = some (.out ())) n (Xbu h0) (fun i hi ih => by rw [Xe5 (h i hi)]; exact ih) 0 (by omega)
theorem Xym (y : Int) : 0 ≤ IntKind.wrap .i64 (BitVec.ofInt (IntKind.bits .i64) y &&& BitVec.ofInt (IntKind.bits .i64) 255).toNat ∧ IntKind.wrap .i64 (BitVec.ofInt (IntKind.bits .i64) y &&& BitVec.ofInt (IntKind.bits .i64) 255).toNat ≤ 255 := by
 have h : (BitVec.ofInt (IntKind.bits .i64) y &&& BitVec.ofInt (IntKind.bits .i64) 255).toNat ≤ 255 := by
  rw [BitVec.toNat_and]
  exact Nat.le_trans Nat.and_le_right (by decide)
 generalize (BitVec.ofInt (IntKind.bits .i64) y &&& BitVec.ofInt (IntKind.bits .i64) 255).toNat = n at h ⊢
 rw [← Xs6, wkA]
 omega
def Xdb (c : Xau) : Prop := c.b_.length ≤ 1048576 ∧ 0 ≤ c.i_
theorem Xp7 (b : List Int) (hb : b.length ≤ 1048576) : ∃ c, Xje b = some c ∧ Xdb c := by
 unfold Xje
 obtain ⟨o, h, _⟩ := Xew (f := Xjo b) (fun v => 0 ≤ v.2) (fun v => b.length - v.2.toNat) (fun _ _ => True) (by
  intro ⟨h, i⟩ hi
  unfold Xjo
  simp only [Xc9, Xad] at hi ⊢
  by_cases h1 : i < b.length ∧ i < 4000
  ·
   rw [Xa8 (by simp; exact h1), Xa4 ⟨hi, h1.1⟩]
   refine .inr ⟨_, rfl, ?_, ?_, fun _ _ => trivial⟩
   ·
    simp only; rw [wkA]; omega
   ·
    simp only; rw [wkA]; omega
  ·
   rw [Xa5 (by simp; omega)]
   exact .inl ⟨_, rfl, trivial⟩) (Xaa .i64 (94701 + (b.length : Int)), 0) (by simp)
 rw [h]
 exact ⟨_, rfl, hb, by simp⟩
theorem Xb9 (c : Xau) (hc : Xdb c) : ∃ x c', Xbl c = some (x, c') ∧ 0 ≤ x ∧ x ≤ 255 ∧ Xdb c' := by
 unfold Xbl
 rw [Xa4 (by decide), Xa4 (by decide)]
 obtain ⟨h1, h2⟩ := hc
 by_cases h : c.i_ < c.b_.length
 ·
  rw [Xbh h, Xa4 ⟨h2, h⟩, Xad]
  refine ⟨_, _, rfl, (Xym _).1, (Xym _).2, h1, ?_⟩
  simp only; rw [wkA]; omega
 ·
  rw [Xay h, Xad]
  exact ⟨_, _, rfl, (Xym _).1, (Xym _).2, h1, h2⟩
theorem Xaq (c : Xau) (n : Int) (hc : Xdb c) : ∃ x c', Xas c n = some (x, c') ∧ 0 ≤ x ∧ (0 < n → x < n) ∧ (n ≤ 0 → x = 0) ∧ Xdb c' := by
 unfold Xas
 by_cases h0 : n ≤ 0
 ·
  rw [Xbh h0]; exact ⟨_, _, rfl, by omega, fun h => by omega, fun _ => rfl, hc⟩
 ·
  rw [Xay h0]
  obtain ⟨x, c1, e1, a1, b1, hc1⟩ := Xb9 c hc
  by_cases h1 : n ≤ 256
  ·
   rw [Xbh h1, e1, Xad, rqA]
   refine ⟨_, _, rfl, ?_, fun _ => ?_, fun h => by omega, hc1⟩
   ·
    simp only; rw [Xbo a1]; exact Int.emod_nonneg _ (by omega)
   ·
    simp only; rw [Xbo a1]; exact Int.emod_lt_of_pos _ (by omega)
  ·
   obtain ⟨y, c2, e2, a2, b2, hc2⟩ := Xb9 c1 hc1
   obtain ⟨z, c3, e3, a3, b3, hc3⟩ := Xb9 c2 hc2
   obtain ⟨u, c4, e4, a4, b4, hc4⟩ := Xb9 c3 hc3
   rw [Xay h1, e1, Xad]
   simp only
   rw [e2, Xad]
   simp only
   rw [e3, Xad]
   simp only
   rw [e4, Xad, rqA]
   simp only
   rw [wkA (e := x * 16777216), wkA (e := y * 65536), wkA (e := z * 256), wkA (e := x * 16777216 + y * 65536), wkA (e := x * 16777216 + y * 65536 + z * 256), wkA, Xbo (by omega)]
   exact ⟨_, _, rfl, Int.emod_nonneg _ (by omega), fun _ => Int.emod_lt_of_pos _ (by omega), fun h => by omega, hc4⟩
theorem Xds (c : Xau) (n : Int) (hc : Xdb c) : ∃ x c', Xch c n = some (x, c') ∧ Xdb c' := by
 unfold Xch
 obtain ⟨x, c', e, _, _, _, h⟩ := Xaq c n hc
 rw [e, Xad]; exact ⟨_, _, rfl, h⟩
theorem Yhu (l : List Int) : Xyb l = some (decide ((l.length : Int) > 1048576)) := rfl
theorem Xrx (b : List Int) (hb : b.length ≤ 1048576) : ∃ l, Xfb b = some l ∧ l.length = 12 ∧ ∀ x ∈ l, 0 ≤ x ∧ x < 10000 := by
 unfold Xfb
 obtain ⟨c, e, hc⟩ := Xp7 b hb
 obtain ⟨x, c1, e1, _, _, hc1⟩ := Xb9 c hc
 rw [e, Xad, e1, Xad]
 obtain ⟨o, h, h2⟩ := Xew (f := Xex) (fun v => 0 ≤ v.1 ∧ v.1 ≤ 12 ∧ Xdb ⟨v.2.1, v.2.2.1, v.2.2.2.1⟩ ∧ (v.2.2.2.2.length : Int) = v.1 ∧ ∀ x ∈ v.2.2.2.2, 0 ≤ x ∧ x < 10000) (fun v => 12 - v.1.toNat) (fun _ o => o.length = 12 ∧ ∀ x ∈ o, 0 ≤ x ∧ x < 10000) (by
  intro ⟨i, b, j, h, l⟩ ⟨h1, h2, h3, h4, h5⟩
  unfold Xex
  simp only at h1 h2 h3 h4 h5 ⊢
  by_cases hi : i < 12
  ·
   obtain ⟨x, c', ex, x0, x1, _, hx⟩ := Xaq _ 10000 h3
   rw [Xbh hi, ex, Xad, Xa4 (by rw [Yl0]; simp only [List.length_singleton]; omega)]
   refine .inr ⟨_, rfl, ?_, ?_, fun _ h => h⟩
   ·
    rw [wkA]
    refine ⟨by omega, by omega, hx, by simp; omega, ?_⟩
    intro y hy
    rcases List.mem_append.1 hy with hy | hy
    ·
     exact h5 y hy
    ·
     rw [List.mem_singleton.1 hy]; exact ⟨x0, x1 (by omega)⟩
   ·
    rw [wkA]; omega
  ·
   rw [Xay hi]
   exact .inl ⟨_, rfl, by omega, h5⟩) (0, c1.b_, c1.i_, c1.h_, []) ⟨by simp, by simp, hc1, by simp, by simp⟩
 rw [h]
 exact ⟨_, rfl, h2⟩
def Xdd (n a b : Int) : Int := if b < a ∨ n < a then a else if n > b then b else n
def Xro (r : Rate) : Bool := decide (0 ≤ r.Qp ∧ r.Qp ≤ 40 ∧ 1 ≤ r.Target ∧ r.Target ≤ 100000 ∧ -8 * r.Target ≤ r.Debt ∧ r.Debt ≤ 8 * r.Target)
theorem Ykj (r : Rate) : Xro r = true ↔ 0 ≤ r.Qp ∧ r.Qp ≤ 40 ∧ 1 ≤ r.Target ∧ r.Target ≤ 100000 ∧ -8 * r.Target ≤ r.Debt ∧ r.Debt ≤ 8 * r.Target := by simp [Xro]
theorem Xmd {n a b : Int} (h : a ≤ b) : a ≤ Xdd n a b ∧ Xdd n a b ≤ b := by
 unfold Xdd
 repeat' split
 all_goals omega
theorem Xx2 (c : Xau) (hc : Xdb c) : ∃ r c', Xiy c = some (r, c') ∧ Xro r = true ∧ Xdb c' := by
 unfold Xiy
 obtain ⟨x, c1, e1, a1, b1, _, h1⟩ := Xaq c 2000 hc
 rw [e1, Xad]
 obtain ⟨y, c2, e2, a2, b2, _, h2⟩ := Xaq c1 41 h1
 simp only
 rw [e2, Xad]
 have b1' := b1 (by omega)
 have b2' := b2 (by omega)
 rw [wkA (e := 1 + x), wkA (e := 16 * (1 + x)), wkA (e := 16 * (1 + x) + 1)]
 obtain ⟨z, c3, e3, a3, b3, _, h3⟩ := Xaq c2 (16 * (1 + x) + 1) h2
 have b3' := b3 (by omega)
 simp only
 rw [e3, Xad, wkA (e := 8 * (1 + x)), wkA]
 refine ⟨_, _, rfl, ?_, h3⟩
 rw [Ykj]
 simp only
 omega
def Xa3 (a b : Int) : Int := if 0 ≤ a ∧ a ≤ 65535 ∧ 0 ≤ b ∧ b ≤ 65535 then (a + b) % 65536 else 0
theorem Xe2 (a b : Int) : Xcz a b = some (Xa3 a b) := by
 unfold Xcz Xa3
 simp only [Xg1, Xad, Xki]
 by_cases h : 0 ≤ a ∧ a ≤ 65535 ∧ 0 ≤ b ∧ b ≤ 65535
 ·
  rw [if_pos h, Xa5 (by simp; omega), Xa4 (by decide), wkA, Xbo (by omega)]
 ·
  rw [if_neg h, Xa8 (by simp; omega)]
theorem Yaf (a b : Int) : Xjy a b = some (Xa3 a b) := by
 unfold Xjy Xa3
 simp only [Xaj, Xad, Xki]
 by_cases h : 0 ≤ a ∧ a ≤ 65535 ∧ 0 ≤ b ∧ b ≤ 65535
 ·
  rw [if_pos h, Xa5 (by simp; omega), Xa4 (by decide), wkA, Xbo (by omega)]
 ·
  rw [if_neg h, Xa8 (by simp; omega)]
def Xa9 (a b : Int) : Int := if 0 ≤ a ∧ a ≤ 65535 ∧ 0 ≤ b ∧ b ≤ 65535 then (if b - a > 32767 then b - a - 65536 else if b - a < -32768 then b - a + 65536 else b - a) else 0
theorem Xgh (a b : Int) : Xd4 a b = some (Xa9 a b) := by
 unfold Xd4 Xa9
 simp only [Xg1, Xad, Xki]
 by_cases h : 0 ≤ a ∧ a ≤ 65535 ∧ 0 ≤ b ∧ b ≤ 65535
 ·
  rw [if_pos h, Xa5 (by simp; omega), Xa4 (by decide), wkA (e := b - a), wkA (e := b - a + 65536), Xbo (by omega), wkA, Yme]
  repeat' split
  all_goals (simp only [Xad]; congr 1; omega)
 ·
  rw [if_neg h, Xa8 (by simp; omega)]
def Xb3 (p : Xal) : Bool := decide (0 ≤ p.Seq ∧ p.Seq ≤ 65535 ∧ 1 ≤ p.Bytes.size ∧ p.Bytes.size ≤ 400)
theorem Xe7 (p : Xal) : Xb3 p = true ↔ 0 ≤ p.Seq ∧ p.Seq ≤ 65535 ∧ 1 ≤ p.Bytes.size ∧ p.Bytes.size ≤ 400 := by simp [Xb3]
theorem Xne (p : Xal) : Xf0 p = some (Xb3 p) := by
 unfold Xf0 Xb3
 simp only [Xg1, Xcf, Xad, Xc9]
 congr 1
 rw [Bool.eq_iff_iff]; simp; omega
def cnt (n : Int) : Bool := decide (0 ≤ n ∧ n ≤ 1000000000)
def Yl2 (n : Int) : Int := if n + 1 < 1000000000 then n + 1 else 1000000000
theorem Xe4 (n : Int) (h : cnt n = true) : Xc0 n = some (Yl2 n) := by
 have h' : 0 ≤ n ∧ n ≤ 1000000000 := by simpa [cnt] using h
 unfold Xc0 Yl2
 rw [wkA]
 congr 1
 split <;> split <;> omega
theorem Xcp (n a b : Int) : Xbp n a b = some (Xdd n a b) := by
 unfold Xbp Xdd
 rw [Xrs, Xad]
 by_cases h : b < a ∨ n < a
 ·
  rw [if_pos h, Xa8 (by simpa using h)]
 ·
  rw [if_neg h, Xa5 (by simp; omega), Yme]; split <;> rfl
def Xe0 (next : Int) : Int → List Xal → Bool
 | _, [] => true
 | Xkf, p :: r => Xb3 p && decide (Xkf < Xa9 next p.Seq ∧ Xa9 next p.Seq < 40) && Xe0 next (Xa9 next p.Seq) r
def Ymx (q : Xa7) : Bool := cnt q.Late && cnt q.Far && cnt q.Twice && cnt q.Over && cnt q.Lost
def Xco (q : Xa7) : Bool :=
 if q.Begun = true then decide (0 ≤ q.Next ∧ q.Next ≤ 65535 ∧ 0 ≤ q.Age ∧ q.Age ≤ 20 ∧ q.Held.length ≤ 24) && (Xe0 q.Next (-1) q.Held && Ymx q)
 else decide (q.Next = 0 ∧ q.Age = 0 ∧ q.Held.length = 0 ∧ q.Late = 0 ∧ q.Far = 0 ∧ q.Twice = 0 ∧ q.Over = 0 ∧ q.Lost = 0)
theorem Xh3 (q : Xa7) : Xdz q = some (Xco q) := by
 unfold Xdz Xco
 simp only [Xg1, Xcf, Xad, Xc9, Xki]
 by_cases hb : q.Begun = true
 ·
  rw [Xa5 (by simp [hb]), if_pos hb]
  by_cases h1 : 0 ≤ q.Next ∧ q.Next ≤ 65535 ∧ 0 ≤ q.Age ∧ q.Age ≤ 20 ∧ q.Held.length ≤ 24
  ·
   rw [Xa5 (by simp; omega), decide_eq_true h1, Bool.true_and]
   have key : ∀ (r a : List Xal) (Xkf : Int), q.Held = a ++ r → -1 ≤ Xkf → Xkf < 40 → loop (Xdf q) (Xkf, (a.length : Int)) = some (if Xe0 q.Next Xkf r = true then .out () else .ret false) := by
    intro r
    induction r with
    | nil =>
     intro a Xkf ha _ _
     rw [List.append_nil] at ha
     refine Xiz ?_
     unfold Xdf
     simp only
     rw [Xay (by rw [ha]; omega)]; rfl
    | cons p r ih =>
     intro a Xkf ha hl1 hl2
     have hlen : a.length < q.Held.length := by rw [ha]; simp
     have hp : q.Held.getD a.length Xaw = p := by rw [ha]; exact Xhz a p _ r
     have hstep : Xdf q (Xkf, (a.length : Int)) = sel (!(Xb3 p && decide (Xkf < Xa9 q.Next p.Seq ∧ Xa9 q.Next p.Seq < 40))) (some (.done (.ret false))) (some (.go (Xa9 q.Next p.Seq, ((a.length + 1 : Nat) : Int)))) := by
      unfold Xdf
      simp only [Int.toNat_natCast, hp]
      rw [syA, rqA, Xgh, Xad, Xne, Xad, wkA, Xcf, Xad, wkA, Xki, Xad]
      congr 1
      cases Xb3 p <;> rw [Bool.eq_iff_iff] <;> simp <;> omega
     by_cases h : Xb3 p = true ∧ Xkf < Xa9 q.Next p.Seq ∧ Xa9 q.Next p.Seq < 40
     ·
      rw [lgo (by rw [hstep, Xa5 (by simp [h])]) rfl]
      have := ih (a ++ [p]) (Xa9 q.Next p.Seq) (by rw [ha]; simp) (by omega) (by omega)
      rw [List.length_append, List.length_singleton] at this
      rw [this]
      simp [Xe0, h]
     ·
      rw [Xiz (by rw [hstep, Xa8 (by simp only [Bool.not_eq_true', Bool.and_eq_false_iff, decide_eq_false_iff_not]; by_cases hp : Xb3 p = true; exact .inr (fun e => h ⟨hp, e⟩); exact .inl (by simpa using hp))])]
      rw [if_neg]
      simp only [Xe0, Bool.and_eq_true, decide_eq_true_eq]
      exact fun e => h ⟨e.1.1, e.1.2⟩
   have := key q.Held [] (-1) rfl (by omega) (by omega)
   simp only [List.length_nil] at this
   rw [show (((-1 : Int), (0 : Int))) = ((-1), ((0 : Nat) : Int)) from rfl, this, Xad]
   by_cases h2 : Xe0 q.Next (-1) q.Held = true
   ·
    rw [if_pos h2, h2, Bool.true_and]
    have st : ∀ i : Nat, i < 5 → Xb8 q (i : Int) = sel (cnt (([q.Late, q.Far, q.Twice, q.Over, q.Lost]).getD i 0)) (some (.go ((i + 1 : Nat) : Int))) (some (.done (.ret false))) := by
     intro i hi
     unfold Xb8
     simp only [List.length_cons, List.length_nil]
     rw [syA, rqA, rqA, Xcf, Xad, Xzl, wkA]
     rfl
    have e5 : loop (Xb8 q) ((5 : Nat) : Int) = some (.out ()) := Xiz (by unfold Xb8; rw [Xay (by simp)])
    have go : ∀ i : Nat, i < 5 → loop (Xb8 q) (i : Int) = sel (cnt (([q.Late, q.Far, q.Twice, q.Over, q.Lost]).getD i 0)) (loop (Xb8 q) ((i + 1 : Nat) : Int)) (some (.ret false)) := by
     intro i hi
     have := st i hi
     cases h : cnt (([q.Late, q.Far, q.Twice, q.Over, q.Lost]).getD i 0) with
     | true => rw [h] at this; exact Xe5 this
     | false => rw [h] at this; exact Xbu this
    have := go 0 (by omega)
    rw [show (0 : Int) = ((0 : Nat) : Int) from rfl, this, go 1 (by omega), go 2 (by omega), go 3 (by omega), go 4 (by omega), e5]
    simp only [Ymx, List.getD_cons_zero, List.getD_cons_succ]
    cases cnt q.Late <;> cases cnt q.Far <;> cases cnt q.Twice <;> cases cnt q.Over <;> cases cnt q.Lost <;> rfl
   ·
    rw [if_neg h2]; simp only [Bool.not_eq_true] at h2; rw [h2]; rfl
  ·
   rw [Xa8 (by simp; omega), decide_eq_false h1, Bool.false_and]
 ·
  rw [Xa8 (by simpa using hb), if_neg hb]
  congr 1
  rw [Bool.eq_iff_iff]; simp
theorem Ydu : ∀ {l : List Xal} {n Xkf : Int}, Xe0 n Xkf l = true → ∀ p ∈ l, Xb3 p = true
 | [], _, _, _, p, hp => by simp at hp
 | q :: r, n, Xkf, h, p, hp => by
  rw [Xe0, Bool.and_eq_true, Bool.and_eq_true] at h
  rcases List.mem_cons.1 hp with rfl | hp
  ·
   exact h.1.1
  ·
   exact Ydu h.2 p hp
theorem Xju {q : Xa7} (h : Xco q = true) : 0 ≤ q.Next ∧ q.Next ≤ 65535 ∧ q.Held.length ≤ 24 ∧ 0 ≤ q.Age ∧ q.Age ≤ 20 ∧ Ymx q = true ∧ ∀ p ∈ q.Held, Xb3 p = true := by
 unfold Xco at h
 by_cases hb : q.Begun = true
 ·
  rw [if_pos hb, Bool.and_eq_true, Bool.and_eq_true, decide_eq_true_eq] at h
  exact ⟨h.1.1, h.1.2.1, h.1.2.2.2.2, h.1.2.2.1, h.1.2.2.2.1, h.2.2, Ydu h.2.1⟩
 ·
  rw [if_neg hb, decide_eq_true_eq] at h
  obtain ⟨h1, h2, h3, h4, h5, h6, h7, h8⟩ := h
  have : q.Held = [] := List.length_eq_zero_iff.1 h3
  refine ⟨by omega, by omega, by omega, by omega, by omega, ?_, by rw [this]; simp⟩
  unfold Ymx cnt; rw [h4, h5, h6, h7, h8]; rfl
theorem Xyu {q : Xa7} (h : Ymx q = true) : cnt q.Late = true ∧ cnt q.Far = true ∧ cnt q.Twice = true ∧ cnt q.Over = true ∧ cnt q.Lost = true := by
 unfold Ymx at h
 simp only [Bool.and_eq_true] at h
 exact ⟨h.1.1.1.1, h.1.1.1.2, h.1.1.2, h.1.2, h.2⟩
theorem Xmi (q : Xa7) (h : q.Held.length ≤ 1048576) : Xeo q = some q := by
 have hm : maxLen = 9223372036854775807 := rfl
 unfold Xeo
 rw [Xa4 (by simp only [List.length_nil]; omega), List.nil_append]
def Xh0 (s : Int) (l : List Xal) : Bool := l.any fun p => p.Seq == s
theorem Ynr (q : Xa7) (s : Int) (f : Int → Option (Lp Int (Ou Unit Bool))) (hl : q.Held.length ≤ 1048576)
  (h : ∀ i : Nat, i < q.Held.length → f (i : Int) = sel (((q.Held.getD i Xaw).Seq) == s) (some (.done (.ret true))) (some (.go ((i + 1 : Nat) : Int)))) (h0 : f (q.Held.length : Int) = some (.done (.out ()))) :
  loop f 0 = some (if Xh0 s q.Held = true then .ret true else .out ()) := by
 have key : ∀ (r a : List Xal), q.Held = a ++ r → loop f (a.length : Int) = some (if Xh0 s r = true then .ret true else .out ()) := by
  intro r
  induction r with
  | nil => intro a ha; rw [List.append_nil] at ha; rw [ha] at h0; rw [Xbu h0]; rfl
  | cons p r ih =>
   intro a ha
   have hlen : a.length < q.Held.length := by rw [ha]; simp
   have hp : q.Held.getD a.length Xaw = p := by rw [ha]; exact Xhz a p _ r
   have hs := h a.length hlen
   rw [hp] at hs
   by_cases e : p.Seq = s
   ·
    rw [Xa8 (by simpa using e)] at hs
    rw [Xbu hs, if_pos (by simp [Xh0, e])]
   ·
    rw [Xa5 (by simpa using e)] at hs
    rw [Xe5 hs]
    have := ih (a ++ [p]) (by rw [ha]; simp)
    rw [List.length_append, List.length_singleton] at this
    rw [this]
    have e2 : Xh0 s (p :: r) = Xh0 s r := by simp [Xh0, e]
    rw [e2]
 exact key q.Held [] rfl
theorem Xng (q : Xa7) (s : Int) : Xf1 q s = some (Xco q && Xh0 s q.Held) := by
 unfold Xf1
 rw [Xh3, Xad, Xzl]
 cases h : Xco q with
 | false => rfl
 | true =>
  have hq := Xju h
  rw [Xbi, Ynr q s (Xec q s) (by omega) (by
   intro i hi
   unfold Xec
   rw [syA, rqA, wkA]; rfl) (by unfold Xec; rw [snA]), Xad]
  cases Xh0 s q.Held <;> rfl
def Xcg (next : Int) : Nat → List Xal → Nat
 | _, [] => 0
 | i, p :: r => if p.Seq = Xa3 next i then (if p.Last = true then i + 1 else Xcg next (i + 1) r) else 0
theorem Ygq (next : Int) : ∀ (r : List Xal) (i : Nat), Xcg next i r ≤ i + r.length
 | [], i => by simp [Xcg]
 | p :: r, i => by
  rw [Xcg]
  have := Ygq next r (i + 1)
  split
  ·
   split
   ·
    simp
   ·
    simp; omega
  ·
   omega
theorem Ypf {n s : Int} {i : Nat} (h1 : 0 ≤ n ∧ n ≤ 65535) (h2 : 0 ≤ s ∧ s ≤ 65535) (h3 : i ≤ 24) : Xa9 n s = i ↔ s = Xa3 n i := by
 unfold Xa9 Xa3
 rw [if_pos (show 0 ≤ n ∧ n ≤ 65535 ∧ 0 ≤ s ∧ s ≤ 65535 by omega), if_pos (show 0 ≤ n ∧ n ≤ 65535 ∧ (0 : Int) ≤ (i : Int) ∧ (i : Int) ≤ 65535 by omega)]
 constructor
 ·
  intro h
  split at h
  ·
   omega
  ·
   split at h <;> omega
 ·
  intro h
  split
  ·
   omega
  ·
   split <;> omega
theorem Ygx {n : Int} {i : Nat} (h1 : 0 ≤ n ∧ n ≤ 65535) (h3 : i ≤ 24) : Xa3 (Xa3 n i) 1 = Xa3 n ((i + 1 : Nat) : Int) := by
 unfold Xa3
 rw [if_pos (show 0 ≤ n ∧ n ≤ 65535 ∧ (0 : Int) ≤ (i : Int) ∧ (i : Int) ≤ 65535 by omega), if_pos (by omega), if_pos (by omega)]
 omega
def Xml (next : Int) : List Xal → Nat
 | [] => 0
 | p :: r => if p.First = true ∧ p.Seq ≠ next then 0 else Xml next r + 1
theorem Yjw (next : Int) : ∀ r : List Xal, Xml next r ≤ r.length
 | [] => by simp [Xml]
 | p :: r => by
  rw [Xml]; have := Yjw next r
  split
  ·
   omega
  ·
   simp; omega
def Yh2 (q : Xa7) : Int := if Xml q.Next q.Held < q.Held.length then (q.Held.getD (Xml q.Next q.Held) Xaw).Seq else Xa3 (q.Held.getD (q.Held.length - 1) Xaw).Seq 1
def Yh5 (q : Xa7) (w : Int) : Xa7 × List Xal × Int :=
 if Xco q = true ∧ 0 ≤ w ∧ w ≤ 20 then
  (if 0 < Xcg q.Next 0 q.Held then (⟨q.Begun, Xa3 q.Next (Xcg q.Next 0 q.Held), 0, q.Held.drop (Xcg q.Next 0 q.Held), q.Late, q.Far, q.Twice, q.Over, q.Lost⟩, q.Held.take (Xcg q.Next 0 q.Held), 1)
  else if q.Held.length = 0 then (⟨q.Begun, q.Next, 0, q.Held, q.Late, q.Far, q.Twice, q.Over, q.Lost⟩, [], 0)
  else if q.Age < w then (⟨q.Begun, q.Next, q.Age + 1, q.Held, q.Late, q.Far, q.Twice, q.Over, q.Lost⟩, [], 0)
  else (⟨q.Begun, Yh2 q, 0, q.Held.drop (Xml q.Next q.Held), q.Late, q.Far, q.Twice, q.Over, Yl2 q.Lost⟩, [], 2))
 else (q, [], 0)
theorem Xyv {α : Type} (l : List α) (k : Nat) : (l.drop k).take (l.length - k) = l.drop k := List.take_of_length_le (by rw [List.length_drop]; omega)
def Yg7 (q : Xa7) (r : Nat) : Xa7 × List Xal × Int := (⟨q.Begun, Xa3 q.Next r, 0, q.Held.drop r, q.Late, q.Far, q.Twice, q.Over, q.Lost⟩, q.Held.take r, 1)
theorem Ymp (q : Xa7) (h : Xco q = true) : loop (Xbw q q) 0 = some (if 0 < Xcg q.Next 0 q.Held then .ret (Yg7 q (Xcg q.Next 0 q.Held)) else .out ()) := by
 have hm : maxLen = 9223372036854775807 := rfl
 have hq := Xju h
 have key : ∀ (r a : List Xal), q.Held = a ++ r → loop (Xbw q q) (a.length : Int) = some (if 0 < Xcg q.Next a.length r then .ret (Yg7 q (Xcg q.Next a.length r)) else .out ()) := by
  intro r
  induction r with
  | nil =>
   intro a ha
   rw [List.append_nil] at ha
   refine Xiz ?_
   unfold Xbw
   rw [Xay (by rw [ha]; omega)]; rfl
  | cons p r ih =>
   intro a ha
   have hlen : a.length < q.Held.length := by rw [ha]; simp
   have hp : q.Held.getD a.length Xaw = p := by rw [ha]; exact Xhz a p _ r
   have hstep : Xbw q q (a.length : Int) = sel (p.Seq != Xa3 q.Next a.length) (some (.done (.out ()))) (sel p.Last (some (.done (.ret (⟨q.Begun, Xa3 p.Seq 1, 0, q.Held.drop (a.length + 1), q.Late, q.Far, q.Twice, q.Over, q.Lost⟩, q.Held.take (a.length + 1), 1)))) (some (.go ((a.length + 1 : Nat) : Int)))) := by
    unfold Xbw
    rw [wkA (e := (a.length : Int) + 1)]
    have e1 : ((a.length : Int) + 1).toNat = a.length + 1 := by omega
    simp only [Int.toNat_natCast, hp, e1, Int.toNat_zero, List.drop_zero, List.length_nil, List.nil_append, Nat.zero_add, Nat.sub_zero, Xyv]
    rw [syA, rqA, rqA, Xe2, Xad, rqA, Xa4 (by simp only [List.length_take]; omega), rqA, Xa4 (by simp only [List.length_drop]; omega), Xe2, Xad]
    rfl
   by_cases e : p.Seq = Xa3 q.Next a.length
   ·
    rw [Xa5 (by simpa using e)] at hstep
    by_cases e2 : p.Last = true
    ·
     rw [Xa8 e2] at hstep
     rw [Xbu hstep, Xcg, if_pos e, if_pos e2, if_pos (by omega), e, Ygx (by omega) (by omega)]
     rfl
    ·
     rw [Xa5 (by simpa using e2)] at hstep
     have := ih (a ++ [p]) (by rw [ha]; simp)
     rw [List.length_append, List.length_singleton] at this
     rw [Xe5 hstep, Xcg, if_pos e, if_neg e2, this]
   ·
    rw [Xa8 (by simpa using e)] at hstep
    rw [Xbu hstep, Xcg, if_neg e]; rfl
 exact key q.Held [] rfl
theorem Ymh (q : Xa7) (n : Int) (hl : q.Held.length ≤ 24) : loop (Xbx q n) 0 = some (if Xml q.Next q.Held < q.Held.length then (q.Held.getD (Xml q.Next q.Held) Xaw).Seq else n, q.Held.drop (Xml q.Next q.Held)) := by
 have hm : maxLen = 9223372036854775807 := rfl
 have key : ∀ (r a : List Xal), q.Held = a ++ r → loop (Xbx q n) (a.length : Int) = some (if a.length + Xml q.Next r < q.Held.length then (q.Held.getD (a.length + Xml q.Next r) Xaw).Seq else n, q.Held.drop (a.length + Xml q.Next r)) := by
  intro r
  induction r with
  | nil =>
   intro a ha
   rw [List.append_nil] at ha
   refine Xiz ?_
   unfold Xbx
   rw [Xay (by rw [ha]; omega)]
   rw [show Xml q.Next [] = 0 from rfl, Nat.add_zero, if_neg (by rw [ha]; omega), List.drop_eq_nil_of_le (by rw [ha]; omega)]
  | cons p r ih =>
   intro a ha
   have hlen : a.length < q.Held.length := by rw [ha]; simp
   have hp : q.Held.getD a.length Xaw = p := by rw [ha]; exact Xhz a p _ r
   have hstep : Xbx q n (a.length : Int) = sel (p.First && p.Seq != q.Next) (some (.done (p.Seq, q.Held.drop a.length))) (some (.go ((a.length + 1 : Nat) : Int))) := by
    unfold Xbx
    simp only [Int.toNat_natCast, hp, List.length_nil, List.nil_append, Nat.zero_add, Xyv]
    rw [syA, rqA, rqA, Xa4 (by simp only [List.length_drop]; omega), wkA, Xc9, Xad]
    rfl
   by_cases e : p.First = true ∧ p.Seq ≠ q.Next
   ·
    rw [Xa8 (by simp [e])] at hstep
    rw [Xbu hstep, Xml, if_pos e, Nat.add_zero, if_pos hlen, hp]
   ·
    rw [Xa5 (by
     rw [Bool.and_eq_false_iff]
     by_cases h1 : p.First = true
     ·
      right; simp; exact Classical.byContradiction fun h2 => e ⟨h1, h2⟩
     ·
      left; simpa using h1)] at hstep
    have := ih (a ++ [p]) (by rw [ha]; simp)
    rw [List.length_append, List.length_singleton] at this
    rw [Xe5 hstep, Xml, if_neg e, this, show a.length + 1 + Xml q.Next r = a.length + (Xml q.Next r + 1) by omega]
 have := key q.Held [] rfl
 simpa using this
theorem Xtk (q : Xa7) (w : Int) (hl : q.Held.length ≤ 1048576) : Xgf q w = some (Yh5 q w) := by
 unfold Xgf Yh5
 rw [Xmi q hl, Xad, Xh3, Xad]
 by_cases h : Xco q = true ∧ 0 ≤ w ∧ w ≤ 20
 ·
  rw [if_pos h, Xa8 h.1, Xcf, Xad, Xad, Xa5 (by simpa using h.2), Ymp q h.1, Xad]
  have hq := Xju h.1
  by_cases hr0 : 0 < Xcg q.Next 0 q.Held
  ·
   rw [if_pos hr0, if_pos hr0]; rfl
  ·
   rw [if_neg hr0, if_neg hr0]
   simp only
   by_cases h0 : q.Held.length = 0
   ·
    rw [if_pos h0, Xa8 (by simp [h0])]
   ·
    rw [if_neg h0, Xa5 (by simpa using h0)]
    by_cases ha : q.Age < w
    ·
     rw [if_pos ha, Xbh ha, wkA]
    ·
     rw [if_neg ha, Xay ha, Xe4 _ (Xyu hq.2.2.2.2.2.1).2.2.2.2, Xad, wkA, rqA, Xe2, Xad, Ymh q _ hq.2.2.1, Xad]
     rw [show ((q.Held.length : Int) - 1).toNat = q.Held.length - 1 by omega]
     rfl
 ·
  rw [if_neg h]
  cases hb : Xco q with
  | false => rw [Xbf, Xad, Xbi]
  | true =>
   have h' : ¬ (0 ≤ w ∧ w ≤ 20) := fun e => h ⟨hb, e⟩
   rw [Xbi, Xcf, Xad, Xad, Xa8 (by simp; omega)]
def Ypr (n g : Int) (p : Xal) : List Xal → List Xal
 | [] => [p]
 | x :: r => if g < Xa9 n x.Seq then p :: x :: r else x :: Ypr n g p r
def Xvh (n g : Int) : List Xal → Nat
 | [] => 0
 | x :: r => if Xa9 n x.Seq < g then Xvh n g r + 1 else 0
theorem Yi0 (n g : Int) : ∀ r : List Xal, Xvh n g r ≤ r.length
 | [] => by simp [Xvh]
 | x :: r => by
  rw [Xvh]; have := Yi0 n g r
  split
  ·
   simp; omega
  ·
   omega
theorem Yjm (n g : Int) (p : Xal) : ∀ r : List Xal, (∀ x ∈ r, Xa9 n x.Seq ≠ g) → Ypr n g p r = r.take (Xvh n g r) ++ [p] ++ r.drop (Xvh n g r)
 | [], _ => rfl
 | x :: r, h => by
  have h1 := h x (by simp)
  rw [Ypr, Xvh]
  by_cases e : Xa9 n x.Seq < g
  ·
   rw [if_pos e, if_neg (by omega), Yjm n g p r (fun y hy => h y (by simp [hy]))]
   simp
  ·
   rw [if_neg e, if_pos (by omega)]; rfl
theorem Yf9 (q : Xa7) (p : Xal) (hl : q.Held.length ≤ 24) : Xby q p = some (⟨q.Begun, q.Next, q.Age, q.Held.take (Xvh q.Next (Xa9 q.Next p.Seq) q.Held) ++ [p] ++ q.Held.drop (Xvh q.Next (Xa9 q.Next p.Seq) q.Held), q.Late, q.Far, q.Twice, q.Over, q.Lost⟩ : Xa7) := by
 have hm : maxLen = 9223372036854775807 := rfl
 unfold Xby
 generalize hg : Xa9 q.Next p.Seq = g
 have key : ∀ (r a : List Xal), q.Held = a ++ r → loop (Xbt q p) (a.length : Int) = some ((a.length + Xvh q.Next g r : Nat) : Int) := by
  intro r
  induction r with
  | nil =>
   intro a ha
   rw [List.append_nil] at ha
   refine Xiz ?_
   unfold Xbt
   rw [Xay (by rw [ha]; omega), Xad, Xbf]; rfl
  | cons x r ih =>
   intro a ha
   have hlen : a.length < q.Held.length := by rw [ha]; simp
   have hx : q.Held.getD a.length Xaw = x := by rw [ha]; exact Xhz a x _ r
   have hstep : Xbt q p (a.length : Int) = sel (decide (Xa9 q.Next x.Seq < g)) (some (.go ((a.length + 1 : Nat) : Int))) (some (.done (a.length : Int))) := by
    unfold Xbt
    simp only [Int.toNat_natCast, hx]
    rw [syA, rqA, rqA, Xgh, Xad, Xgh, Xad, Xad, hg, wkA]
    rfl
   rw [Xvh]
   by_cases e : Xa9 q.Next x.Seq < g
   ·
    rw [Xbh e] at hstep
    have := ih (a ++ [x]) (by rw [ha]; simp)
    rw [List.length_append, List.length_singleton] at this
    rw [Xe5 hstep, this, if_pos e]
    congr 2
    omega
   ·
    rw [Xay e] at hstep
    rw [Xbu hstep, if_neg e]; rfl
 have := key q.Held [] rfl
 simp only [List.length_nil, Nat.zero_add] at this
 rw [show (0 : Int) = ((0 : Nat) : Int) from rfl, this, Xad]
 have hn := Yi0 q.Next g q.Held
 generalize Xvh q.Next g q.Held = k at hn ⊢
 simp only [Int.toNat_natCast, List.drop_zero, List.length_nil, List.nil_append, Nat.zero_add, Nat.sub_zero, Xyv]
 rw [rqA, Xa4 (by simp only [List.length_take]; omega), Xa4 (by simp only [List.length_take, List.length_singleton]; omega), rqA, Xa4 (by simp only [List.length_take, List.length_append, List.length_drop, List.length_singleton]; omega)]
noncomputable def Xri (q : Xa7) : Int := (loop (Xcl q) 0).getD 0
theorem Ydy (q : Xa7) (h0 : 0 < q.Held.length) (hl : q.Held.length ≤ 24) : loop (Xcl q) 0 = some (Xri q) ∧ 0 ≤ Xri q ∧ Xri q < q.Held.length := by
 obtain ⟨o, h, h1, h2⟩ := Xew (f := Xcl q) (fun v => 0 ≤ v ∧ v < q.Held.length) (fun v => q.Held.length - v.toNat) (fun _ o => 0 ≤ o ∧ o < q.Held.length) (by
  intro v ⟨h1, h2⟩
  unfold Xcl
  rw [wkA]
  by_cases hv : v < (q.Held.length : Int) - 1
  ·
   rw [Xbh hv, rqA, Xad, Xzl, wkA]
   cases (q.Held.getD v.toNat Xaw).Last with
   | true => exact .inl ⟨_, rfl, h1, h2⟩
   | false => exact .inr ⟨_, rfl, by omega, by omega, fun _ h => h⟩
  ·
   rw [Xay hv, Xad, Xbf]
   exact .inl ⟨_, rfl, h1, h2⟩) 0 (by omega)
 unfold Xri; rw [h]; exact ⟨rfl, h1, h2⟩
theorem Ynv (q : Xa7) (h0 : 0 < q.Held.length) (hl : q.Held.length ≤ 24) : 0 ≤ Xri q ∧ Xri q < q.Held.length := (Ydy q h0 hl).2
theorem Ykd (q : Xa7) (h0 : 0 < q.Held.length) (hl : q.Held.length ≤ 24) : loop (Xcl q) 0 = some (Xri q) := (Ydy q h0 hl).1
def Yqx (q : Xa7) (p : Xal) : Xa7 := ⟨q.Begun, q.Next, q.Age, Ypr q.Next (Xa9 q.Next p.Seq) p q.Held, q.Late, q.Far, q.Twice, q.Over, q.Lost⟩
noncomputable def Yj7 (q : Xa7) : Xa7 := ⟨q.Begun, Xa3 (q.Held.getD (Xri q).toNat Xaw).Seq 1, 0, q.Held.drop ((Xri q).toNat + 1), q.Late, q.Far, q.Twice, Yl2 q.Over, q.Lost⟩
noncomputable def qin (q : Xa7) (p : Xal) : Xa7 × Int :=
 if Xco q = true then
  if Xb3 p = true then
   if q.Begun = true then
    if Xa9 q.Next p.Seq ≥ 40 ∨ Xa9 q.Next p.Seq < -40 then (⟨q.Begun, p.Seq, 0, [p], q.Late, Yl2 q.Far, q.Twice, q.Over, q.Lost⟩, 4)
    else if Xa9 q.Next p.Seq < 0 then (⟨q.Begun, q.Next, q.Age, q.Held, Yl2 q.Late, q.Far, q.Twice, q.Over, q.Lost⟩, 3)
    else if Xh0 p.Seq q.Held = true then (⟨q.Begun, q.Next, q.Age, q.Held, q.Late, q.Far, Yl2 q.Twice, q.Over, q.Lost⟩, 5)
    else if q.Held.length < 24 then (Yqx q p, 0)
    else (if 0 ≤ Xa9 (Yj7 q).Next p.Seq ∧ Xa9 (Yj7 q).Next p.Seq ≤ 39 then Yqx (Yj7 q) p else Yj7 q, 6)
   else (⟨true, p.Seq, 0, [p], 0, 0, 0, 0, 0⟩, 0)
  else (q, 2)
 else (q, 1)
theorem Yko {n a b : Int} (hn : 0 ≤ n ∧ n ≤ 65535) (ha : 0 ≤ a ∧ a ≤ 65535) (hb : 0 ≤ b ∧ b ≤ 65535) (h : Xa9 n a = Xa9 n b) : a = b := by
 unfold Xa9 at h
 rw [if_pos (show 0 ≤ n ∧ n ≤ 65535 ∧ 0 ≤ a ∧ a ≤ 65535 by omega), if_pos (show 0 ≤ n ∧ n ≤ 65535 ∧ 0 ≤ b ∧ b ≤ 65535 by omega)] at h
 repeat' split at h
 all_goals omega
theorem Xmk (a b : Int) : 0 ≤ Xa3 a b ∧ Xa3 a b ≤ 65535 := by
 unfold Xa3; split <;> omega
theorem Yi1 (q : Xa7) (p : Xal) (hl : q.Held.length ≤ 24) (hn : 0 ≤ q.Next ∧ q.Next ≤ 65535) (hh : ∀ x ∈ q.Held, Xb3 x = true) (hp : Xb3 p = true) (hs : Xh0 p.Seq q.Held = false) : Xby q p = some (Yqx q p) := by
 rw [Yf9 q p hl]
 unfold Yqx
 rw [Yjm]
 intro x hx e
 have h1 := (Xe7 x).1 (hh x hx)
 have h2 := (Xe7 p).1 hp
 have := Yko hn (by omega) (by omega) e
 have : Xh0 p.Seq q.Held = true := by
  unfold Xh0; rw [List.any_eq_true]; exact ⟨x, hx, by simpa using this⟩
 rw [hs] at this; cases this
theorem Xn0 (q : Xa7) (p : Xal) (hl : q.Held.length ≤ 1048576) : Xhi q p = some (qin q p) := by
 have hm : maxLen = 9223372036854775807 := rfl
 unfold Xhi qin
 rw [Xmi q hl, Xad, Xh3, Xad, Xzl]
 cases hok : Xco q with
 | false => rfl
 | true =>
  have hq := Xju hok
  have hc := Xyu hq.2.2.2.2.2.1
  rw [Xbi, if_pos rfl, Xne, Xad, Xzl]
  cases hpk : Xb3 p with
  | false => rfl
  | true =>
   rw [Xbi, if_pos rfl, Xzl]
   cases hb : q.Begun with
   | false =>
    unfold Xco at hok
    rw [if_neg (by simp [hb]), decide_eq_true_eq] at hok
    obtain ⟨z1, z2, z3, z4, z5, z6, z7, z8⟩ := hok
    rw [Xbf, if_neg (by decide), z2, z4, z5, z6, z7, z8]
   | true =>
    rw [Xbi, if_pos rfl, Xgh, Xad, Xrs, Xad]
    generalize hg : Xa9 q.Next p.Seq = g
    by_cases h1 : g ≥ 40 ∨ g < -40
    ·
     rw [if_pos h1, Xa8 (by simpa using h1), Xe4 _ hc.2.1, Xad]
    rw [if_neg h1, Xa5 (by simp; omega)]
    by_cases h2 : g < 0
    ·
     rw [if_pos h2, Xbh h2, Xe4 _ hc.1, Xad]
    rw [if_neg h2, Xay h2, Xng, Xad, hok, Bool.true_and]
    cases h3 : Xh0 p.Seq q.Held with
    | true => rw [Xbi, if_pos rfl, Xe4 _ hc.2.2.1, Xad]
    | false =>
     rw [Xbf, if_neg (by decide)]
     by_cases h4 : q.Held.length < 24
     ·
      rw [if_pos h4, Xa5 (by simp; omega), Yi1 q p hq.2.2.1 (by omega) hq.2.2.2.2.2.2 hpk h3, Xad]
     rw [if_neg h4, Xa8 (by simp; omega)]
     obtain ⟨l2, l3⟩ := Ynv q (by omega) hq.2.2.1
     rw [Xe4 _ hc.2.2.2.1, Xad, Ykd q (by omega) hq.2.2.1, Xad, rqA, Xe2, Xad, wkA, rqA, Int.toNat_natCast, show (Xri q + 1).toNat = (Xri q).toNat + 1 by omega, Xyv]
     rw [Xgh, Xad, Xcf, Xad, Yme]
     have hcut : (⟨true, Xa3 (q.Held.getD (Xri q).toNat Xaw).Seq 1, 0, q.Held.drop ((Xri q).toNat + 1), q.Late, q.Far, q.Twice, Yl2 q.Over, q.Lost⟩ : Xa7) = Yj7 q := by unfold Yj7; rw [hb]
     rw [hcut]
     have hn : Xa3 (q.Held.getD (Xri q).toNat Xaw).Seq 1 = (Yj7 q).Next := rfl
     rw [hn]
     by_cases h5 : 0 ≤ Xa9 (Yj7 q).Next p.Seq ∧ Xa9 (Yj7 q).Next p.Seq ≤ 39
     ·
      have hs : Xh0 p.Seq (Yj7 q).Held = false := by
       rw [Bool.eq_false_iff] at h3 ⊢
       intro e; apply h3
       unfold Xh0 at e ⊢
       rw [List.any_eq_true] at e ⊢
       obtain ⟨x, hx, e⟩ := e
       exact ⟨x, List.mem_of_mem_drop hx, e⟩
      rw [if_pos h5, if_pos h5, Yi1 (Yj7 q) p (by unfold Yj7; simp only [List.length_drop]; omega) (Xmk _ _) (fun x hx => hq.2.2.2.2.2.2 x (List.mem_of_mem_drop hx)) hpk hs, Xad, Xad]
     ·
      rw [if_neg h5, if_neg h5, Xad]; unfold Yj7; rw [hb]
theorem Ylk {n y : Int} {k : Nat} (hn : 0 ≤ n ∧ n ≤ 65535) (hy : 0 ≤ y ∧ y ≤ 65535) (h1 : (k : Int) ≤ Xa9 n y) (h2 : Xa9 n y < 41) : Xa9 (Xa3 n k) y = Xa9 n y - k := by
 unfold Xa9 at h1 h2 ⊢
 unfold Xa3
 rw [if_pos (show 0 ≤ n ∧ n ≤ 65535 ∧ 0 ≤ y ∧ y ≤ 65535 by omega)] at h1 h2 ⊢
 have hk : (k : Int) ≤ 40 := by
  repeat' split at h1
  all_goals (repeat' split at h2)
  all_goals omega
 rw [if_pos (show 0 ≤ n ∧ n ≤ 65535 ∧ (0 : Int) ≤ (k : Int) ∧ (k : Int) ≤ 65535 by omega), if_pos (by omega)]
 repeat' split at h1
 all_goals (repeat' split at h2)
 all_goals (repeat' split)
 all_goals omega
theorem Xny {n : Int} {k : Nat} (hn : 0 ≤ n ∧ n ≤ 65535) : ∀ {l : List Xal} {Xkf : Int}, (k : Int) - 1 ≤ Xkf → Xe0 n Xkf l = true → Xe0 (Xa3 n k) (Xkf - k) l = true
 | [], _, _, _ => rfl
 | p :: r, Xkf, hl, h => by
  rw [Xe0, Bool.and_eq_true, Bool.and_eq_true, decide_eq_true_eq] at h ⊢
  have hp := (Xe7 p).1 h.1.1
  have e := Ylk (k := k) hn (y := p.Seq) (by omega) (by omega) (by omega)
  rw [e]
  exact ⟨⟨h.1.1, by omega⟩, Xny hn (by omega) h.2⟩
theorem Xy1 {n : Int} : ∀ {l : List Xal} {Xkf : Int} (k : Nat) (hk : k < l.length), Xe0 n Xkf l = true → Xkf < Xa9 n (l.getD k Xaw).Seq ∧ Xe0 n (Xa9 n (l.getD k Xaw).Seq) (l.drop (k + 1)) = true ∧ Xa9 n (l.getD k Xaw).Seq < 40
 | [], _, k, hk, _ => by simp at hk
 | p :: r, Xkf, 0, _, h => by
  rw [Xe0, Bool.and_eq_true, Bool.and_eq_true, decide_eq_true_eq] at h
  exact ⟨h.1.2.1, h.2, h.1.2.2⟩
 | p :: r, Xkf, k + 1, hk, h => by
  rw [Xe0, Bool.and_eq_true, Bool.and_eq_true, decide_eq_true_eq] at h
  obtain ⟨h1, h2, h3⟩ := Xy1 (l := r) k (by simpa using hk) h.2
  exact ⟨by rw [List.getD_cons_succ]; omega, by rw [List.getD_cons_succ]; exact h2, by rw [List.getD_cons_succ]; exact h3⟩
theorem Ykp {n : Int} {p : Xal} {k : Nat} (hn : 0 ≤ n ∧ n ≤ 65535) (hp : Xb3 p = true) (h : Xa9 n p.Seq = k) (hk : k ≤ 40) : p.Seq = Xa3 n k := by
 have h2 := (Xe7 p).1 hp
 unfold Xa9 at h
 unfold Xa3
 rw [if_pos (show 0 ≤ n ∧ n ≤ 65535 ∧ 0 ≤ p.Seq ∧ p.Seq ≤ 65535 by omega)] at h
 rw [if_pos (by omega)]
 repeat' split at h
 all_goals omega
theorem Yh9 {n : Int} {k : Nat} (hn : 0 ≤ n ∧ n ≤ 65535) (hk : k ≤ 40) : Xa3 (Xa3 n k) 1 = Xa3 n ((k + 1 : Nat) : Int) := by
 unfold Xa3
 rw [if_pos (show 0 ≤ n ∧ n ≤ 65535 ∧ (0 : Int) ≤ (k : Int) ∧ (k : Int) ≤ 65535 by omega), if_pos (by omega), if_pos (by omega)]
 omega
theorem Yng {n : Int} (h : cnt n = true) : cnt (Yl2 n) = true := by
 unfold cnt Yl2 at *
 simp only [decide_eq_true_eq] at *
 split <;> omega
theorem Xd5 {q : Xa7} (hb : q.Begun = true) : Xco q = true ↔ (0 ≤ q.Next ∧ q.Next ≤ 65535 ∧ 0 ≤ q.Age ∧ q.Age ≤ 20 ∧ q.Held.length ≤ 24) ∧ Xe0 q.Next (-1) q.Held = true ∧ Ymx q = true := by
 unfold Xco
 rw [if_pos hb, Bool.and_eq_true, Bool.and_eq_true, decide_eq_true_eq]
theorem Yhm {q : Xa7} (h1 : cnt q.Late = true) (h2 : cnt q.Far = true) (h3 : cnt q.Twice = true) (h4 : cnt q.Over = true) (h5 : cnt q.Lost = true) : Ymx q = true := by
 unfold Ymx; rw [h1, h2, h3, h4, h5]; rfl
theorem Ygr {n : Int} (hn : 0 ≤ n ∧ n ≤ 65535) : ∀ {l : List Xal} {i : Nat}, i + l.length ≤ 24 → Xe0 n ((i : Int) - 1) l = true → 0 < Xcg n i l → i < Xcg n i l ∧ Xe0 n ((Xcg n i l : Int) - 1) (l.drop (Xcg n i l - i)) = true
 | [], i, _, _, h => by simp [Xcg] at h
 | p :: r, i, hi, h, h0 => by
  rw [Xcg] at h0 ⊢
  rw [Xe0, Bool.and_eq_true, Bool.and_eq_true, decide_eq_true_eq] at h
  have hp := (Xe7 p).1 h.1.1
  have hl : (p :: r).length = r.length + 1 := rfl
  by_cases e : p.Seq = Xa3 n i
  ·
   rw [if_pos e] at h0 ⊢
   have hg : Xa9 n p.Seq = i := (Ypf (by omega) (by omega) (by omega)).2 e
   rw [hg] at h
   by_cases e2 : p.Last = true
   ·
    rw [if_pos e2]
    refine ⟨by omega, ?_⟩
    rw [show i + 1 - i = 1 by omega, List.drop_succ_cons, List.drop_zero, show ((i + 1 : Nat) : Int) - 1 = i by omega]
    exact h.2
   ·
    rw [if_neg e2] at h0 ⊢
    obtain ⟨a, b⟩ := Ygr hn (l := r) (i := i + 1) (by omega) (by rw [show ((i + 1 : Nat) : Int) - 1 = i by omega]; exact h.2) h0
    refine ⟨by omega, ?_⟩
    rw [show Xcg n (i + 1) r - i = (Xcg n (i + 1) r - (i + 1)) + 1 by omega, List.drop_succ_cons]
    exact b
  ·
   rw [if_neg e] at h0; omega
theorem Ynz {q : Xa7} {w : Int} (h : Xco q = true) : Xco (Yh5 q w).1 = true := by
 have hq := Xju h
 have hc := Xyu hq.2.2.2.2.2.1
 unfold Yh5
 by_cases hw : Xco q = true ∧ 0 ≤ w ∧ w ≤ 20
 ·
  rw [if_pos hw]
  cases hb : q.Begun with
  | false =>
   have h2 := h
   unfold Xco at h2
   rw [if_neg (by simp [hb]), decide_eq_true_eq] at h2
   obtain ⟨z1, z2, z3, z4, z5, z6, z7, z8⟩ := h2
   have hh : q.Held = [] := List.length_eq_zero_iff.1 z3
   rw [hh, if_neg (by simp [Xcg]), if_pos (show ([] : List Xal).length = 0 from rfl)]
   unfold Xco
   rw [if_neg (by simp), decide_eq_true_eq]
   exact ⟨z1, rfl, rfl, z4, z5, z6, z7, z8⟩
  | true =>
   have h' := (Xd5 hb).1 h
   have hr := Ygq q.Next q.Held 0
   by_cases h0 : 0 < Xcg q.Next 0 q.Held
   ·
    rw [if_pos h0]
    obtain ⟨_, b⟩ := Ygr (by omega) (by omega) (by exact h'.2.1) h0
    have := Xny (k := Xcg q.Next 0 q.Held) (by omega) (by omega) b
    rw [Nat.sub_zero, show ((Xcg q.Next 0 q.Held : Int)) - 1 - (Xcg q.Next 0 q.Held : Int) = -1 by omega] at this
    exact (Xd5 rfl).2 ⟨⟨(Xmk _ _).1, (Xmk _ _).2, Int.le_refl _, (by decide : (0 : Int) ≤ 20), by simp only [List.length_drop]; omega⟩, this, Yhm hc.1 hc.2.1 hc.2.2.1 hc.2.2.2.1 hc.2.2.2.2⟩
   rw [if_neg h0]
   by_cases h1 : q.Held.length = 0
   ·
    rw [if_pos h1]
    exact (Xd5 rfl).2 ⟨⟨h'.1.1, h'.1.2.1, Int.le_refl _, (by decide : (0 : Int) ≤ 20), h'.1.2.2.2.2⟩, h'.2.1, h'.2.2⟩
   rw [if_neg h1]
   by_cases h2 : q.Age < w
   ·
    rw [if_pos h2]
    exact (Xd5 rfl).2 ⟨⟨h'.1.1, h'.1.2.1, by simp only; omega, by simp only; omega, h'.1.2.2.2.2⟩, h'.2.1, h'.2.2⟩
   rw [if_neg h2]
   have hcn : Ymx (⟨true, Yh2 q, 0, q.Held.drop (Xml q.Next q.Held), q.Late, q.Far, q.Twice, q.Over, Yl2 q.Lost⟩ : Xa7) = true := Yhm hc.1 hc.2.1 hc.2.2.1 hc.2.2.2.1 (Yng hc.2.2.2.2)
   have hs := Yjw q.Next q.Held
   unfold Yh2 at hcn ⊢
   generalize Xml q.Next q.Held = s at hs hcn ⊢
   by_cases h3 : s < q.Held.length
   ·
    rw [if_pos h3] at hcn ⊢
    have hpk := hq.2.2.2.2.2.2 (q.Held.getD s Xaw) (by rw [Xde _ _ h3]; exact List.getElem_mem _)
    have hpk' := (Xe7 _).1 hpk
    obtain ⟨d1, d2, d3⟩ := Xy1 s h3 h'.2.1
    obtain ⟨k, hk⟩ : ∃ k : Nat, Xa9 q.Next (q.Held.getD s Xaw).Seq = k := ⟨(Xa9 q.Next (q.Held.getD s Xaw).Seq).toNat, by omega⟩
    have hd : Xe0 q.Next ((k : Int) - 1) (q.Held.drop s) = true := by
     rw [Yle _ s h3 Xaw, Xe0, Bool.and_eq_true, Bool.and_eq_true, decide_eq_true_eq]
     exact ⟨⟨hpk, by omega, by omega⟩, d2⟩
    have := Xny (k := k) (by omega) (by omega) hd
    rw [show (k : Int) - 1 - k = -1 by omega, ← Ykp (by omega) hpk hk (by omega)] at this
    exact (Xd5 rfl).2 ⟨⟨by simp only; omega, by simp only; omega, Int.le_refl _, (by decide : (0 : Int) ≤ 20), by simp only [List.length_drop]; omega⟩, this, hcn⟩
   ·
    rw [if_neg h3] at hcn ⊢
    have hd : q.Held.drop s = [] := List.drop_eq_nil_of_le (by omega)
    rw [hd] at hcn ⊢
    exact (Xd5 rfl).2 ⟨⟨(Xmk _ _).1, (Xmk _ _).2, Int.le_refl _, (by decide : (0 : Int) ≤ 20), by simp⟩, rfl, hcn⟩
 ·
  rw [if_neg hw]; exact h
theorem Xii (c : Xau) (l : List Int) (hc : Xdb c) (hl : 0 < l.length) (hl2 : l.length ≤ 1000) : ∃ x c', Xct c l = some (x, c') ∧ x ∈ l ∧ Xdb c' := by
 unfold Xct
 obtain ⟨x, c', e, a, b, _, h⟩ := Xaq c l.length hc
 have b' := b (by omega)
 rw [e, Xad]
 simp only
 rw [rqA]
 refine ⟨_, _, rfl, ?_, h⟩
 rw [Xde l _ (by omega)]; exact List.getElem_mem _
theorem Ydk (c : Xau) (hc : Xdb c) : ∃ x c', Xln c = some (x, c') ∧ 0 ≤ x ∧ x ≤ 65535 ∧ Xdb c' := by
 unfold Xln
 obtain ⟨b, c1, e1, h1⟩ := Xds c 3 hc
 rw [e1, Xad]
 cases b with
 | true =>
  obtain ⟨x, c2, e2, hx, h2⟩ := Xii c1 [0, 65535, 65530, 65520, 32767, 32768] h1 (by decide) (by decide)
  simp only [Xbi]
  rw [e2, Xad]
  refine ⟨_, _, rfl, ?_, ?_, h2⟩
  all_goals (simp only [List.mem_cons, List.not_mem_nil, or_false] at hx; simp only; omega)
 | false =>
  obtain ⟨x, c2, e2, a, b, _, h2⟩ := Xaq c1 65536 h1
  have b' := b (by omega)
  simp only [Xbf]
  rw [e2, Xad]
  exact ⟨_, _, rfl, a, by simp only; omega, h2⟩
theorem Xn4 (l : List Xal) (hl : l.length ≤ 1048600) : Xed l l = some true := by
 unfold Xed
 rw [Xa5 (by simp), Xob l.length (f := Xcn l l) (by
  intro i hi
  unfold Xcn
  rw [syA, rqA, rqA, Xa5 (by simp), wkA]
  rfl) (by unfold Xcn; rw [snA])]
 rfl
def Xlu (n : Int) : Bool := decide (1 ≤ n ∧ n ≤ 8)
def Ykc : List Int → Int
 | [] => 0
 | x :: r => x + Ykc r
def Xi1 (l : List Int) : Bool := decide (1 ≤ l.length ∧ l.length ≤ 4) && l.all Xlu
def Xx7 (l : List Int) : Int := if Xi1 l = true then Ykc l else 0
theorem Xqh : ∀ {l : List Int}, l.all Xlu = true → (l.length : Int) ≤ Ykc l ∧ Ykc l ≤ 8 * l.length
 | [], _ => by simp [Ykc]
 | x :: r, h => by
  rw [List.all_cons, Bool.and_eq_true] at h
  have := Xqh h.2
  have hx := h.1
  unfold Xlu at hx
  simp only [decide_eq_true_eq] at hx
  rw [Ykc, List.length_cons]
  omega
theorem Xvf (l : List Int) : 0 ≤ Xx7 l ∧ Xx7 l ≤ 32 := by
 unfold Xx7
 split
 ·
  rename_i h
  unfold Xi1 at h
  rw [Bool.and_eq_true, decide_eq_true_eq] at h
  have := Xqh h.2
  omega
 ·
  omega
theorem Xjq (l : List Int) : Xfo l = some (Xx7 l) := by
 unfold Xfo Xx7 Xi1
 rw [Xrs, Xad]
 by_cases h : 1 ≤ l.length ∧ l.length ≤ 4
 ·
  rw [Xa5 (by simp; omega), decide_eq_true h, Bool.true_and]
  have key : ∀ (r a : List Int) (t : Int), l = a ++ r → 0 ≤ t → t ≤ 8 * a.length → loop (Xeq l) (t, (a.length : Int)) = some (if r.all Xlu = true then .out (t + Ykc r) else .ret 0) := by
   intro r
   induction r with
   | nil =>
    intro a t ha h0 h1
    rw [List.append_nil] at ha
    refine Xiz ?_
    unfold Xeq
    simp only
    rw [Xay (by rw [ha]; omega)]
    simp [Ykc]
   | cons x r ih =>
    intro a t ha h0 h1
    have hlen : a.length < l.length := by rw [ha]; simp
    have hx : l.getD a.length 0 = x := by rw [ha]; exact Xhz a x _ r
    have hstep : Xeq l (t, (a.length : Int)) = sel (Xlu x) (some (.go (Xaa .i64 (t + x), ((a.length + 1 : Nat) : Int)))) (some (.done (.ret 0))) := by
     unfold Xeq
     simp only [Int.toNat_natCast, hx]
     rw [syA, rqA, Xaj, Xad, Xzl, rqA, wkA (e := (a.length : Int) + 1)]
     rfl
    cases e : Xlu x with
    | true =>
     rw [e] at hstep
     have hx2 := e
     unfold Xlu at hx2
     simp only [decide_eq_true_eq] at hx2
     rw [wkA, Xbi] at hstep
     have := ih (a ++ [x]) (t + x) (by rw [ha]; simp) (by omega) (by simp; omega)
     rw [List.length_append, List.length_singleton] at this
     rw [Xe5 hstep, this, List.all_cons, e, Bool.true_and, Ykc, Int.add_assoc]
    | false =>
     rw [e, Xbf] at hstep
     rw [Xbu hstep, List.all_cons, e, Bool.false_and]; rfl
  have := key l [] 0 rfl (by omega) (by simp)
  simp only [List.length_nil, Int.zero_add] at this
  rw [show (((0 : Int), (0 : Int))) = (0, ((0 : Nat) : Int)) from rfl, this, Xad]
  cases l.all Xlu <;> rfl
 ·
  rw [Xa8 (by simp; omega), decide_eq_false h, Bool.false_and]; rfl
def Xnc (s : Seq) : Int := Xx7 s.Cols * Xx7 s.Rows
theorem Ydl (s : Seq) : 0 ≤ Xnc s ∧ Xnc s ≤ 1024 := by
 unfold Xnc
 have h1 := Xvf s.Cols
 have h2 := Xvf s.Rows
 refine ⟨Int.mul_nonneg h1.1 h2.1, ?_⟩
 calc Xx7 s.Cols * Xx7 s.Rows ≤ 32 * Xx7 s.Rows := Int.mul_le_mul_of_nonneg_right h1.2 h2.1
  _ ≤ 1024 := by omega
theorem Xuj (s : Seq) : Xgs s = some (Xnc s) := by
 have h := Ydl s
 unfold Xgs
 rw [Xjq, Xad, Xjq, Xad, wk (by show _ ≤ Xnc s; omega) (by show Xnc s ≤ _; omega)]
 rfl
def Xlt (n : Int) : Int := if n = 1 then 16 else if n = 2 then 64 else if n = 3 then 256 else 0
theorem Xpp (n : Int) : Xdj n = some (Xlt n) := by
 unfold Xdj Xlt
 simp only [Ye0, beq_iff_eq]
 repeat' split
 all_goals rfl
def Xkz (s : Seq) : Bool := decide (1 ≤ Xnc s ∧ Xnc s ≤ Xlt s.Level) && decide (3 ≤ s.Bits ∧ s.Bits ≤ 8)
theorem Xnb (s : Seq) : Xi9 s = some (Xkz s) := by
 unfold Xi9 Xkz
 simp only [Xuj, Xpp, Xaj, Xad, Xc9]
theorem Xhd {s : Seq} (h : Xkz s = true) : Xi1 s.Cols = true ∧ Xi1 s.Rows = true ∧ 3 ≤ s.Bits ∧ s.Bits ≤ 8 := by
 unfold Xkz at h
 rw [Bool.and_eq_true, decide_eq_true_eq, decide_eq_true_eq] at h
 obtain ⟨⟨h1, _⟩, h3⟩ := h
 unfold Xnc Xx7 at h1
 refine ⟨?_, ?_, h3⟩
 ·
  refine Classical.byContradiction fun e => ?_
  rw [if_neg e, Int.zero_mul] at h1; omega
 ·
  refine Classical.byContradiction fun e => ?_
  rw [if_neg e, Int.mul_zero] at h1; omega
def Xm4 (c r : List Int) : Int := if Xkz ⟨1, 3, c, r⟩ = true then 1 else if Xkz ⟨2, 3, c, r⟩ = true then 2 else if Xkz ⟨3, 3, c, r⟩ = true then 3 else 0
theorem Yke (c r : List Int) (f : Int → Option (Lp Int (Ou Unit Int))) (h : ∀ n : Int, n ≤ 3 → 1 ≤ n → f n = sel (Xkz ⟨n, 3, c, r⟩) (some (.done (.ret n))) (some (.go (n + 1)))) (h4 : f 4 = some (.done (.out ()))) :
  (bnd (loop f 1) fun o => match o with | .out _ => some 0 | .ret r => some r) = some (Xm4 c r) := by
 have h1 := h 1 (by omega) (by omega)
 have h2 := h 2 (by omega) (by omega)
 have h3 := h 3 (by omega) (by omega)
 unfold Xm4
 cases e1 : Xkz ⟨1, 3, c, r⟩ with
 | true => rw [e1, Xbi] at h1; rw [Xbu h1]; rfl
 | false =>
  rw [e1, Xbf] at h1
  rw [Xe5 h1]
  cases e2 : Xkz ⟨2, 3, c, r⟩ with
  | true => rw [e2, Xbi] at h2; rw [show (1 : Int) + 1 = 2 from rfl, Xbu h2]; rfl
  | false =>
   rw [e2, Xbf] at h2
   rw [show (1 : Int) + 1 = 2 from rfl, Xe5 h2]
   cases e3 : Xkz ⟨3, 3, c, r⟩ with
   | true => rw [e3, Xbi] at h3; rw [show (2 : Int) + 1 = 3 from rfl, Xbu h3]; rfl
   | false =>
    rw [e3, Xbf] at h3
    rw [show (2 : Int) + 1 = 3 from rfl, Xe5 h3, show (3 : Int) + 1 = 4 from rfl, Xbu h4]; rfl
theorem Xwa (c r : List Int) : Xid c r = some (Xm4 c r) := by
 unfold Xid
 refine Yke c r _ (fun n h1 h2 => ?_) ?_
 ·
  unfold Xg3
  rw [Xbh h1, Xnb, Xad, wkA]
 ·
  unfold Xg3; rw [snA]
def Xpa (s : Seq) : Int := if Xkz s = true then (s.Cols.length : Int) * s.Rows.length else 0
theorem Xm7 {l : List Int} (h : Xi1 l = true) : 1 ≤ l.length ∧ l.length ≤ 4 := by
 unfold Xi1 at h; rw [Bool.and_eq_true, decide_eq_true_eq] at h; exact h.1
theorem Yig {s : Seq} (h : Xkz s = true) : 1 ≤ (s.Cols.length : Int) * s.Rows.length ∧ (s.Cols.length : Int) * s.Rows.length ≤ 16 := by
 obtain ⟨h1, h2, _⟩ := Xhd h
 have a := Xm7 h1
 have b := Xm7 h2
 have e : ∀ x y : Nat, 1 ≤ x → x ≤ 4 → 1 ≤ y → y ≤ 4 → 1 ≤ x * y ∧ x * y ≤ 16 := by
  intro x y h1 h2 h3 h4
  rcases (show x = 1 ∨ x = 2 ∨ x = 3 ∨ x = 4 by omega) with rfl | rfl | rfl | rfl <;> omega
 have := e _ _ a.1 a.2 b.1 b.2
 rw [← Int.natCast_mul]; omega
theorem Xom (s : Seq) : Xhn s = some (Xpa s) := by
 unfold Xhn Xpa
 rw [Xnb, Xad, Xzl]
 cases h : Xkz s with
 | false => rfl
 | true => have := Yig h; rw [Xbi, wkA, if_pos rfl]
def Xqm (s : Seq) : Int × Int := if Xkz s = true then (8 * Ykc s.Cols, 8 * Ykc s.Rows) else (0, 0)
theorem Yls {l : List Int} (h : Xi1 l = true) : 1 ≤ Ykc l ∧ Ykc l ≤ 32 := by
 unfold Xi1 at h
 rw [Bool.and_eq_true, decide_eq_true_eq] at h
 have := Xqh h.2
 omega
theorem Xl6 (s : Seq) : Xhf s = some (Xqm s) := by
 unfold Xhf Xqm
 rw [Xnb, Xad, Xzl]
 cases h : Xkz s with
 | false => rfl
 | true =>
  obtain ⟨h1, h2, _⟩ := Xhd h
  have a := Yls h1
  have b := Yls h2
  rw [Xbi, Xjq, Xad, Xjq, Xad, if_pos rfl]
  unfold Xx7
  rw [if_pos h1, if_pos h2, wkA, wkA]
def Xrm (p : Par) : Bool := decide (0 ≤ p.Qp ∧ p.Qp ≤ 40) && !(p.Large && p.Exact)
theorem Xr9 (p : Par) : Xkw p = some (Xrm p) := by
 unfold Xkw Xrm
 rw [Xaj, Xad, Xki, Xc9, Xad]
 cases p.Large <;> cases p.Exact <;> rfl
def Xeu (p : Pic) : Bool := decide (1 ≤ p.Wide ∧ p.Wide ≤ 256) && (decide (1 ≤ p.High ∧ p.High ≤ 256) && ((p.Dots.size : Int) == p.Wide * p.High))
theorem Xkt {w h : Int} (h1 : 1 ≤ w ∧ w ≤ 256) (h2 : 1 ≤ h ∧ h ≤ 256) : 1 ≤ w * h ∧ w * h ≤ 65536 := by
 have a : w * 1 ≤ w * h := Int.mul_le_mul_of_nonneg_left h2.1 (by omega)
 have b : w * h ≤ 256 * h := Int.mul_le_mul_of_nonneg_right h1.2 (by omega)
 omega
theorem Xcd (p : Pic) : Xcj p = some (Xeu p) := by
 unfold Xcj Xeu
 simp only [Xaj, Xad, Xc9]
 by_cases h1 : 1 ≤ p.Wide ∧ p.Wide ≤ 256
 ·
  by_cases h2 : 1 ≤ p.High ∧ p.High ≤ 256
  ·
   have := Xkt h1 h2
   rw [wkA]
  ·
   rw [decide_eq_false h2, Bool.false_and, Bool.false_and]
 ·
  rw [decide_eq_false h1, Bool.false_and, Bool.false_and]
def Yqp (p : Pic) (s : Seq) : Bool := Xeu p && ((p.Wide == (Xqm s).1) && (p.High == (Xqm s).2))
theorem Xl4 (r : Rate) : Xhe r = some (Xro r) := by
 unfold Xhe Xro
 simp only [Xaj, Xad]
 by_cases h1 : 0 ≤ r.Qp ∧ r.Qp ≤ 40
 ·
  rw [Xbh h1]
  by_cases h2 : 1 ≤ r.Target ∧ r.Target ≤ 100000
  ·
   rw [Xbh h2, wkA, wkA, Xad]
   simp only [h1.1, h1.2, h2.1, h2.2, true_and]
  ·
   rw [Xay h2, Xad]; congr 1; symm; rw [decide_eq_false_iff_not]; exact fun h => h2 ⟨h.2.2.1, h.2.2.2.1⟩
 ·
  rw [Xay h1, Xad]; congr 1; symm; rw [decide_eq_false_iff_not]; exact fun h => h1 ⟨h.1, h.2.1⟩
def Xg2 (s : Xcw) : Bool :=
 decide (Xpa s.Seq = 1) && Xrm s.Par && Xro s.Rate && decide (0 ≤ s.Frame ∧ s.Frame < 2 ^ s.Seq.Bits.toNat) && decide ((1 ≤ s.Every ∧ s.Every ≤ 1000) ∧ (0 ≤ s.Since ∧ s.Since ≤ 1000) ∧ (0 ≤ s.Reach ∧ s.Reach ≤ 4)) &&
 (if s.Has = true then Yqp s.Ref s.Seq else decide (s.Ref.Wide = 0 ∧ s.Ref.High = 0 ∧ s.Ref.Dots.size = 0))
theorem Yin {b : Int} (h : 3 ≤ b ∧ b ≤ 8) : (2 : Int) ^ min b.toNat (IntKind.bits .i64) = 2 ^ b.toNat ∧ (8 : Int) ≤ 2 ^ b.toNat ∧ (2 : Int) ^ b.toNat ≤ 256 := by
 rcases (show b = 3 ∨ b = 4 ∨ b = 5 ∨ b = 6 ∨ b = 7 ∨ b = 8 by omega) with rfl | rfl | rfl | rfl | rfl | rfl <;> decide
theorem Yg8 {s : Seq} (h : Xpa s = 1) : Xkz s = true := by
 unfold Xpa at h
 refine Classical.byContradiction fun e => ?_
 rw [if_neg e] at h; cases h
theorem Xg5 (s : Xcw) (hb : (Lit.int .i64 s.Seq.Bits).wf = true) : Xc3 s = some (Xg2 s) := by
 have hb' := Ysf hb
 unfold Xc3 Xg2
 rw [Xom, Xad]
 by_cases h1 : Xpa s.Seq = 1
 ·
  have hs := (Xhd (Yg8 h1)).2.2
  have hp := Yin hs
  have e64 : Xaa .u64 s.Seq.Bits = s.Seq.Bits := by
   show IntKind.wrap .u64 s.Seq.Bits = _
   simp [IntKind.wrap, IntKind.signed, IntKind.bits]; omega
  rw [Xa5 (by simp [h1]), e64, rqA, hp.1, wkA, Xr9, Xad, Xl4, Xad, Xrs, Xki, Xki, Xad]
  simp only [Xaj, Xad, Xki]
  rw [decide_eq_true h1, Bool.true_and]
  cases hpar : Xrm s.Par with
  | false => rfl
  | true =>
   cases hr : Xro s.Rate with
   | false => rfl
   | true =>
    by_cases hf : 0 ≤ s.Frame ∧ s.Frame < 2 ^ s.Seq.Bits.toNat
    ·
     rw [Xa5 (by simp; omega), decide_eq_true hf]
     by_cases h3 : (1 ≤ s.Every ∧ s.Every ≤ 1000) ∧ (0 ≤ s.Since ∧ s.Since ≤ 1000) ∧ (0 ≤ s.Reach ∧ s.Reach ≤ 4)
     ·
      rw [Xa5 (by simp; omega), decide_eq_true h3, Xl6, Xad]
      cases s.Has with
      | true =>
       rw [Xbi]
       simp only [Xcd, Xad, Xc9, Yqp]
       rfl
      | false =>
       rw [Xbf]
       simp only [Xad, Xc9]
       congr 1
       rw [Bool.eq_iff_iff]; simp
     ·
      rw [Xa8 (by simp; omega), decide_eq_false h3]; simp
    ·
     rw [Xa8 (by simp; omega), decide_eq_false hf]; simp
 ·
  rw [Xa8 (by simpa using h1), Xad, Xbi, decide_eq_false h1]; simp
def Xku (c r b : Int) (p : Par) (t : Rate) (e n : Int) : Xcw := ⟨⟨Xm4 [c] [r], b, [c], [r]⟩, p, t, 0, 0, e, n, false, ⟨0, 0, ⟨#[]⟩⟩⟩
theorem Xa6 (a b : List Int) : strOfNums a ++ strOfNums b = strOfNums (a ++ b) := by
 unfold strOfNums
 rw [List.map_append]
 apply ByteArray.ext
 simp
theorem Yp1 : (⟨#[]⟩ : ByteArray) = strOfNums [] := rfl
def Ypb (l : List Int) : Prop := ∀ x ∈ l, 0 ≤ x ∧ x ≤ 255
theorem Yjj (l : List Int) (h : Ypb l) : Xbq (strOfNums l) = l := by
 unfold Xbq
 rw [strOfNums_data, List.map_map]
 have : ∀ x ∈ l, ((fun b : UInt8 => (b.toNat : Int)) ∘ fun n : Int => UInt8.ofNat n.toNat) x = x := by
  intro x hx
  have := h x hx
  simp only [Function.comp_apply, UInt8.toNat_ofNat']
  omega
 rw [List.map_congr_left this, List.map_id']
theorem Yqk (l : List Int) (h : Ypb l) (i : Nat) (hi : i < l.length) : Xta (strOfNums l) (i : Int) = l.getD i 0 := by
 unfold Xta
 rw [dif_pos (by rw [Int.toNat_natCast, strOfNums_size]; exact hi)]
 have hx := h l[i] (List.getElem_mem hi)
 rw [Xde l i hi]
 show ((((l.map fun n => UInt8.ofNat n.toNat).toArray)[(i : Int).toNat]'(by simpa using hi)).toNat : Int) = _
 simp only [Int.toNat_natCast, List.getElem_toArray, List.getElem_map, UInt8.toNat_ofNat']
 omega
def Ymz : Nat → Int → List Int
 | 0, _ => []
 | w + 1, n => Ymz w (n / 2) ++ [48 + n % 2]
theorem Xjh : ∀ (w : Nat) (n : Int), (Ymz w n).length = w
 | 0, _ => rfl
 | w + 1, n => by rw [Ymz, List.length_append, Xjh w]; rfl
def Xqc (l : List Int) : Prop := ∀ x ∈ l, x = 48 ∨ x = 49
theorem Xa0 {a b : List Int} (ha : Xqc a) (hb : Xqc b) : Xqc (a ++ b) := fun x hx => (List.mem_append.1 hx).elim (ha x) (hb x)
theorem Yim (n : Nat) : Xqc (List.replicate n 48) := fun x hx => .inl (List.eq_of_mem_replicate hx)
theorem Xyp {l : List Int} (h : Xqc l) : Ypb l := fun x hx => by rcases h x hx with e | e <;> omega
theorem Xlo : Xqc [] := fun x hx => by simp at hx
theorem Xx9 : ∀ (w : Nat) (n : Int), Xqc (Ymz w n)
 | 0, _ => Xlo
 | w + 1, n => Xa0 (Xx9 w (n / 2)) (fun x hx => by rw [List.mem_singleton.1 hx]; omega)
theorem Ynm : ∀ (k : Nat) (n : Int) (s : List Int), 0 ≤ n → n ≤ 9223372036854775807 → k + s.length ≤ 100000 → loop Xgt (n, (k : Int) - 1, List.replicate k 0 ++ s) = some (Ymz k n ++ s) := by
 intro k
 induction k with
 | zero =>
  intro n s h0 h1 hl
  refine Xiz ?_
  unfold Xgt
  simp only
  rw [snA]
  simp [Ymz]
 | succ k ih =>
  intro n s h0 h1 hl
  have e1 : List.replicate (k + 1) (0 : Int) ++ s = List.replicate k 0 ++ 0 :: s := by rw [List.replicate_succ', List.append_assoc]; rfl
  have e2 := Ymf (List.replicate k (0 : Int)) 0 (48 + n % 2) s
  rw [List.length_replicate] at e2
  refine lgo (y := (n / 2, (k : Int) - 1, List.replicate k 0 ++ (48 + n % 2) :: s)) ?_ ?_
  ·
   unfold Xgt
   have e3 : (((k + 1 : Nat) : Int) - 1).toNat = k := by omega
   simp only [e1, e3]
   rw [syA, Xa4 (by decide), Xa4 (by simp; omega), Xa4 (by simp), Xa4 (by decide), Xbo h0, Xce h0, wkA (e := 48 + n % 2), w8 (by omega) (by omega), e2, wkA, wkA]
   rw [show ((k + 1 : Nat) : Int) - 1 - 1 = (k : Int) - 1 by omega]
  ·
   rw [ih (n / 2) ((48 + n % 2) :: s) (by omega) (by omega) (by simp; omega), Ymz, List.append_assoc]; rfl
theorem Xma (n : Int) (w : Nat) (h0 : 0 ≤ n) (h1 : n ≤ 9223372036854775807) (hw : w ≤ 1000) : Xhh n (w : Int) = some (strOfNums (Ymz w n)) := by
 unfold Xhh
 rw [rqA, wkA, Int.toNat_natCast]
 have := Ynm w n [] h0 h1 (by simp; omega)
 rw [List.append_nil, List.append_nil] at this
 rw [this, Xad]
def Ylg (m : Nat) : Nat := if h : m = 0 then 0 else Ylg (m / 2) + 1
termination_by m
decreasing_by omega
def Ymw (m : Nat) : List Int := if h : m = 0 then [] else Ymw (m / 2) ++ [48 + ((m % 2 : Nat) : Int)]
termination_by m
decreasing_by omega
theorem Yil (m : Nat) : (Ymw m).length = Ylg m := by
 induction m using Nat.strongRecOn with
 | _ m ih =>
  rw [Ymw, Ylg]
  by_cases h : m = 0
  ·
   rw [dif_pos h, dif_pos h]; rfl
  ·
   rw [dif_neg h, dif_neg h, List.length_append, ih (m / 2) (by omega)]; rfl
theorem Ylh {m j : Nat} (h : m < 2 ^ j) : Ylg m ≤ j := by
 induction j generalizing m with
 | zero => rw [Ylg, dif_pos (by simp at h; omega)]; omega
 | succ j ih =>
  rw [Ylg]
  split
  ·
   omega
  ·
   have := ih (m := m / 2) (by rw [Nat.pow_succ] at h; omega)
   omega
theorem Yiu {m : Nat} (h : 0 < m) : 1 ≤ Ylg m := by rw [Ylg, dif_neg (by omega)]; omega
theorem Ynd (m : Nat) : Xqc (Ymw m) := by
 induction m using Nat.strongRecOn with
 | _ m ih =>
  rw [Ymw]
  by_cases h : m = 0
  ·
   rw [dif_pos h]; exact Xlo
  ·
   rw [dif_neg h]; exact Xa0 (ih (m / 2) (by omega)) (fun x hx => by rw [List.mem_singleton.1 hx]; omega)
def ueL (n : Nat) : List Int := List.replicate (Ylg (n + 1) - 1) 48 ++ Ymw (n + 1)
theorem Xkl (n : Nat) : Xqc (ueL n) := Xa0 (Yim _) (Ynd _)
theorem Xev (n : Nat) (h : n ≤ 1000000) : (ueL n).length ≤ 39 ∧ 1 ≤ (ueL n).length := by
 unfold ueL
 rw [List.length_append, List.length_replicate, Yil]
 have := Ylh (m := n + 1) (j := 20) (by omega)
 have := Yiu (m := n + 1) (by omega)
 omega
theorem Xoo (n : Nat) (x : Int) (h : n ≤ 1000000000) : Xho (n : Int) x = some (strOfNums (List.replicate n x)) := by
 unfold Xho
 rw [rqA, Int.toNat_natCast]
 have key : ∀ (k a : Nat), k + a = n → loop (Xfl (n : Int) x) ((a : Int), List.replicate a x ++ List.replicate k 0) = some (List.replicate n x) := by
  intro k
  induction k with
  | zero =>
   intro a ha
   refine Xiz ?_
   unfold Xfl
   simp only
   rw [snA]
   simp; omega
  | succ k ih =>
   intro a ha
   have e2 := Ymf (List.replicate a x) 0 x (List.replicate k 0)
   rw [List.length_replicate] at e2
   refine lgo (y := (((a + 1 : Nat) : Int), List.replicate (a + 1) x ++ List.replicate k 0)) ?_ (ih (a + 1) (by omega))
   unfold Xfl
   simp only [List.replicate_succ (n := k), Int.toNat_natCast]
   rw [syA, Xa4 (by simp; omega), Xa4 (by simp), e2, wkA, List.replicate_succ' (n := a), List.append_assoc]
   rfl
 have := key n 0 rfl
 rw [List.replicate_zero, List.nil_append] at this
 exact Xjr this
theorem Xb5 (n : Nat) (h : n ≤ 1000000) : Xb0 (n : Int) = some (strOfNums (ueL n)) := by
 have main : ∀ (j m : Nat) (s : List Int), m < 2 ^ j → j ≤ 63 → s.length + j ≤ 1000 → loop Xf8 ((m : Int), strOfNums s) = some (strOfNums (Ymw m ++ s)) := by
  intro j
  induction j with
  | zero =>
   intro m s hm _ _
   have : m = 0 := by simp at hm; omega
   subst this
   refine Xiz ?_
   unfold Xf8
   simp only
   rw [snA, Ymw, dif_pos rfl]; rfl
  | succ j ih =>
   intro m s hm hj hl
   by_cases h : m = 0
   ·
    subst h
    refine Xiz ?_
    unfold Xf8
    simp only
    rw [snA, Ymw, dif_pos rfl]; rfl
   ·
    have hlt : (m : Int) < 2 ^ (j + 1) := by exact_mod_cast hm
    have hle : (2 : Int) ^ (j + 1) ≤ 2 ^ 63 := by
     have := Nat.pow_le_pow_right (n := 2) (by omega) hj
     exact_mod_cast this
    have hbd : (m : Int) < 9223372036854775808 := Int.lt_of_lt_of_le hlt (by simpa using hle)
    refine lgo (y := (((m / 2 : Nat) : Int), strOfNums ((48 + ((m % 2 : Nat) : Int)) :: s))) ?_ ?_
    ·
     unfold Xf8
     simp only
     rw [syA, Xa4 (by decide), Xbo (by omega), Xce (by omega), wkA (e := 48 + (m : Int) % 2), w8 (by omega) (by omega), Xa4 (by simp only [strOfNums_size, List.length_singleton]; omega), Xa4 (by decide), wkA, Xa6]
     congr 3
    ·
     rw [ih (m / 2) _ (by rw [Nat.pow_succ] at hm; omega) (by omega) (by simp; omega)]
     conv => rhs; rw [Ymw, dif_neg h]
     rw [List.append_assoc]; rfl
 unfold Xb0
 have h1 := Ylh (m := n + 1) (j := 20) (by omega)
 have h2 := Yiu (m := n + 1) (by omega)
 rw [wkA (e := (n : Int) + 1), Yp1, show (n : Int) + 1 = ((n + 1 : Nat) : Int) by omega, main 63 (n + 1) [] (by omega) (by omega) (by simp), Xad, List.append_nil, strOfNums_size, Yil, wkA, show (Ylg (n + 1) : Int) - 1 = ((Ylg (n + 1) - 1 : Nat) : Int) by omega, Xoo _ _ (by omega), Xad,
  Xa4 (by simp only [strOfNums_size, List.length_replicate]; omega), Xa6]
 rfl
theorem Yne (x : Int) (h : x = 48 ∨ x = 49) : ((x != 48) && (x != 49)) = false := by rcases h with rfl | rfl <;> rfl
theorem Yn3 (l : List Int) (hl : Xqc l) (hn : l.length ≤ 9223372036854775806) (f : Int → Option (Lp Int (Ou Unit Bool)))
  (h : ∀ i : Nat, i < l.length → f (i : Int) = sel (((l.getD i 0) != 48) && ((l.getD i 0) != 49)) (some (.done (.ret false))) (some (.go ((i + 1 : Nat) : Int)))) (h0 : f (l.length : Int) = some (.done (.out ()))) : loop f 0 = some (.out ()) :=
 Xob l.length (fun i hi => by rw [h i hi, Yne _ (by rw [Xde l i hi]; exact hl _ (List.getElem_mem hi)), Xbf]) h0
theorem Ycz (l : List Int) (hl : Xqc l) (hn : l.length ≤ 9223372036854775806) : Xlb (strOfNums l) = some true := by
 unfold Xlb
 rw [Yn3 l hl hn (Xgu (strOfNums l)) (fun i hi => by
  unfold Xgu
  rw [strOfNums_size, Yqk l (Xyp hl) i hi, syA, rqA, rqA, Xc9, Xad, wkA]; rfl) (by
  unfold Xgu; rw [strOfNums_size, snA])]
 rfl
theorem Yfd (l : List Int) (hl : Xqc l) (hn : l.length ≤ 400000) : Xmr (strOfNums l) = some true := by
 unfold Xmr
 rw [strOfNums_size, syA, Ycz l hl (by omega), Xad, Xad]
def Ybv (l : List Int) : Int := l.foldl (fun x b => 2 * x + b - 48) 0
def Xyt : Nat → List Int → List Int
 | 0, _ => []
 | n + 1, l => Ybv (l.take 8) :: Xyt n (l.drop 8)
theorem Ydt : ∀ (n : Nat) (l : List Int), (Xyt n l).length = n
 | 0, _ => rfl
 | n + 1, l => by rw [Xyt, List.length_cons, Ydt n]
def Yqf (l : List Int) : List Int := Xyt (l.length / 8 + 1) (l ++ 49 :: List.replicate (8 * (l.length / 8 + 1) - l.length - 1) 48)
theorem Yqd (l : List Int) : ∀ x : Int, l.foldl (fun x b => 2 * x + b - 48) x = x * 2 ^ l.length + Ybv l := by
 induction l with
 | nil => intro x; simp [Ybv]
 | cons b l ih =>
  intro x
  unfold Ybv
  rw [List.foldl_cons, List.foldl_cons, ih, ih (2 * 0 + b - 48), List.length_cons, Int.pow_succ]
  have e1 : (2 * x + b - 48) * 2 ^ l.length = 2 * (x * 2 ^ l.length) + (b - 48) * 2 ^ l.length := by
   rw [show 2 * x + b - 48 = 2 * x + (b - 48) by omega, Int.add_mul, Int.mul_assoc]
  have e2 : x * (2 ^ l.length * 2) = 2 * (x * 2 ^ l.length) := by rw [← Int.mul_assoc, Int.mul_comm]
  rw [e1, e2, show (2 : Int) * 0 + b - 48 = b - 48 by omega]
  omega
theorem Ymt (a b : List Int) : Ybv (a ++ b) = Ybv a * 2 ^ b.length + Ybv b := by
 show (a ++ b).foldl _ 0 = _
 rw [List.foldl_append]
 exact Yqd b (Ybv a)
theorem Yha {l : List Int} (h : Xqc l) : 0 ≤ Ybv l ∧ Ybv l < 2 ^ l.length := by
 induction l with
 | nil => simp [Ybv]
 | cons b l ih =>
  have h1 := ih (fun x hx => h x (by simp [hx]))
  have h2 := h b (by simp)
  rw [show b :: l = [b] ++ l from rfl, Ymt, List.length_append, Int.pow_add, show Ybv [b] = b - 48 by simp [Ybv]]
  have : (2 : Int) ^ [b].length = 2 := rfl
  rw [this]
  rcases h2 with rfl | rfl <;> omega
theorem Yms (v : List Int) (i : Nat) (out : List Int) (c : List Int) (hc : (v.drop i).take 8 = c) (h8 : c.length = 8) (hb : Xqc c) (hn : v.length ≤ 1000000) (hi : i + 8 ≤ v.length) : loop (Xck v ((i : Int), out)) (0, 0) = some (Ybv c) := by
 have key : ∀ (r a : List Int), c = a ++ r → loop (Xck v ((i : Int), out)) (Ybv a, (a.length : Int)) = some (Ybv c) := by
  intro r
  induction r with
  | nil =>
   intro a ha
   rw [List.append_nil] at ha
   refine Xiz ?_
   unfold Xck
   simp only
   rw [Xay (by rw [← ha]; omega), ha]
  | cons x r ih =>
   intro a ha
   have hlen : a.length < 8 := by rw [← h8, ha]; simp
   have hx : v.getD (i + a.length) 0 = x := by
    have h1 : c.getD a.length 0 = x := by rw [ha]; exact Xhz a x _ r
    rw [← h1, ← hc]
    rw [List.getD_eq_getElem?_getD, List.getD_eq_getElem?_getD, List.getElem?_take_of_lt hlen, List.getElem?_drop]
   have hab : Xqc a := fun y hy => hb y (by rw [ha]; simp [hy])
   have hr := Yha hab
   have hp : (2 : Int) ^ a.length ≤ 2 ^ 8 := by
    have := Nat.pow_le_pow_right (n := 2) (by omega) (show a.length ≤ 8 by omega)
    exact_mod_cast this
   have h256 : (2 : Int) ^ 8 = 256 := by decide
   have hxb : x = 48 ∨ x = 49 := hb x (by rw [ha]; simp)
   have hnext := ih (a ++ [x]) (by rw [ha]; simp)
   rw [List.length_append, List.length_singleton] at hnext
   refine lgo (y := (Ybv (a ++ [x]), ((a.length + 1 : Nat) : Int))) ?_ hnext
   unfold Xck
   simp only
   rw [syA, wkA (e := (i : Int) + a.length), rqA, rqA, show ((i : Int) + (a.length : Int)).toNat = i + a.length by omega, hx, wkA (e := (a.length : Int) + 1), wkA (e := x), wkA (e := 2 * Ybv a), wkA (e := 2 * Ybv a + x), wkA,
    Ymt, show Ybv [x] = x - 48 by simp [Ybv], show [x].length = 1 from rfl, Int.pow_one]
   congr 4
   omega
 have := key c [] rfl
 exact this
theorem Yj6 (v : List Int) (hb : Xqc v) (hn : v.length ≤ 1000000) : ∀ (m i : Nat) (out : List Int), i + 8 * m = v.length → out.length ≤ i → loop (Xdt v) ((i : Int), out) = some (out ++ Xyt m (v.drop i)) := by
 have hm' : maxLen = 9223372036854775807 := rfl
 intro m
 induction m with
 | zero =>
  intro i out hi _
  refine Xiz ?_
  unfold Xdt
  simp only
  rw [snA]; simp [Xyt]
 | succ m ih =>
  intro i out hi ho
  have hlen : ((v.drop i).take 8).length = 8 := by rw [List.length_take, List.length_drop]; omega
  have hcb : Xqc ((v.drop i).take 8) := fun x hx => hb x (List.mem_of_mem_drop (List.mem_of_mem_take hx))
  have hr := Yha hcb
  rw [hlen, show (2 : Int) ^ 8 = 256 by decide] at hr
  refine lgo (y := (((i + 8 : Nat) : Int), out ++ [Ybv ((v.drop i).take 8)])) ?_ ?_
  ·
   unfold Xdt
   simp only
   rw [syA, Yms v i out _ rfl hlen hcb hn (by omega), Xad, w8 (by omega) (by omega), Xa4 (by simp only [List.length_singleton]; omega), wkA]
   rfl
  ·
   rw [ih (i + 8) _ (by omega) (by simp; omega), Xyt, List.drop_drop, List.append_assoc]; rfl
theorem Xwy (l : List Int) (hl : Xqc l) (hn : l.length ≤ 400000) : Xij (strOfNums l) = some (strOfNums (Yqf l)) := by
 have hm' : maxLen = 9223372036854775807 := rfl
 unfold Xij
 rw [strOfNums_size, Yjj l (Xyp hl), rqA, Xa4 (by simp only [List.length_singleton]; omega)]
 have key : ∀ (z : Nat) (s : List Int), s.length ≤ 500000 → z < 8 → (s.length + z) % 8 = 0 → loop Xei s = some (s ++ List.replicate z 48) := by
  intro z
  induction z with
  | zero =>
   intro s hs _ h8
   refine Xiz ?_
   unfold Xei
   rw [Xa4 (by decide), Xbo (by omega), Xa5 (by simp only [bne_eq_false_iff_eq]; omega)]; simp
  | succ z ih =>
   intro s hs hz h8
   refine lgo (y := s ++ [48]) ?_ ?_
   ·
    unfold Xei
    rw [Xa4 (by decide), Xbo (by omega), Xa8 (by simp only [bne_iff_ne, ne_eq]; omega), Xa4 (by simp only [List.length_singleton]; omega)]
   ·
    rw [ih (s ++ [48]) (by simp; omega) (by omega) (by simp; omega), List.append_assoc, List.replicate_succ]; rfl
 have hz : (l ++ [49] ++ List.replicate (8 * (l.length / 8 + 1) - l.length - 1) 48 : List Int).length = 8 * (l.length / 8 + 1) := by simp; omega
 have hvb : Xqc (l ++ [49] ++ List.replicate (8 * (l.length / 8 + 1) - l.length - 1) 48) := Xa0 (Xa0 hl (fun x hx => .inr (List.mem_singleton.1 hx))) (Yim _)
 rw [key (8 * (l.length / 8 + 1) - l.length - 1) (l ++ [49]) (by simp; omega) (by omega) (by simp; omega), Xad]
 have := Yj6 _ hvb (by omega) (l.length / 8 + 1) 0 [] (by rw [hz]; omega) (by simp)
 rw [List.nil_append, List.drop_zero] at this
 rw [show (0 : Int) = ((0 : Nat) : Int) from rfl, this, Xad]
 unfold Yqf
 rw [List.append_assoc, List.singleton_append]
theorem Xye (l : List Int) : (Yqf l).length = l.length / 8 + 1 := Ydt _ _
def Ydx (k : Int) : Bool := k == 1 || (k == 5 || (k == 7 || k == 8))
theorem Ya5 (k : Int) : Xj2 k = some (Ydx k) := by
 unfold Xj2 Ydx
 simp only [Xrs, Xad]
theorem Ylr {k : Int} (h : Ydx k = true) : 1 ≤ k ∧ k ≤ 8 := by
 unfold Ydx at h
 simp only [Bool.or_eq_true, beq_iff_eq] at h
 omega
theorem Xl8 (k : Int) (l : List Int) (hk : Ydx k = true) (hl : Xqc l) (hn : l.length ≤ 400000) : Xhg k (strOfNums l) = some (strOfNums (k :: Yqf l), true) := by
 have := Ylr hk
 have hp := Xye l
 unfold Xhg
 rw [Ya5, Xad, hk, Xbi, Yfd l hl hn, Xad, Xad, Bool.not_true, Xbf, Xwy l hl hn, Xad, w8 (by omega) (by omega), Xa4 (by simp only [strOfNums_size, List.length_singleton]; omega), Xa6]; rfl
def Ygy (b : Bool) : List Int := if b = true then [49] else [48]
theorem Xzo (b : Bool) : Xqc (Ygy b) := by unfold Ygy; split <;> (intro x hx; rw [List.mem_singleton.1 hx]; simp)
theorem Xrt (b : Bool) : (Ygy b).length = 1 := by unfold Ygy; split <;> rfl
theorem Xld (b : Bool) : Xhq b = some (strOfNums (Ygy b)) := by cases b <;> rfl
def Yqu (p : Par) : List Int := Ymz 6 p.Qp ++ Ygy p.Large ++ Ygy p.Exact ++ Ygy p.Confined
theorem Yny (p : Par) : Xqc (Yqu p) := Xa0 (Xa0 (Xa0 (Xx9 _ _) (Xzo _)) (Xzo _)) (Xzo _)
theorem Yjk (p : Par) : (Yqu p).length = 9 := by unfold Yqu; simp only [List.length_append, Xjh, Xrt]
theorem Yjl {p : Par} (h : Xrm p = true) : 0 ≤ p.Qp ∧ p.Qp ≤ 40 := by
 unfold Xrm at h; rw [Bool.and_eq_true, decide_eq_true_eq] at h; exact h.1
theorem Yc5 (p : Par) (h : Xrm p = true) : Xle p = some (strOfNums (Yqu p)) := by
 have := Yjl h
 unfold Xle
 rw [show (6 : Int) = ((6 : Nat) : Int) from rfl, Xma _ 6 (by omega) (by omega) (by omega), Xad, Xld, Xad, Xa4 (by simp only [strOfNums_size, Xjh, Xrt]; omega), Xld, Xad, Xa6, Xa4 (by simp only [strOfNums_size, List.length_append, Xjh, Xrt]; omega), Xld, Xad, Xa6, Xa4 (by simp only [strOfNums_size, List.length_append, Xjh, Xrt]; omega), Xa6]
 rfl
def Ym1 : List Int → List Int
 | [] => []
 | x :: r => ueL x.toNat ++ Ym1 r
theorem Yj1 : ∀ l : List Int, Xqc (Ym1 l)
 | [] => Xlo
 | x :: r => Xa0 (Xkl _) (Yj1 r)
theorem Yj2 : ∀ {l : List Int}, l.all Xlu = true → (Ym1 l).length ≤ 39 * l.length
 | [], _ => by simp [Ym1]
 | x :: r, h => by
  rw [List.all_cons, Bool.and_eq_true] at h
  have h1 := Yj2 h.2
  have h2 : 1 ≤ x ∧ x ≤ 8 := by simpa [Xlu] using h.1
  have := Xev x.toNat (by omega)
  rw [Ym1, List.length_append, List.length_cons]
  omega
def Ykf (l : List Int) : List Int := ueL l.length ++ Ym1 l
def Yq0 (s : Seq) : List Int := ueL s.Level.toNat ++ Ymz 4 s.Bits ++ Ykf s.Cols ++ Ykf s.Rows
theorem Ygf (l : List Int) : Xqc (Ykf l) := Xa0 (Xkl _) (Yj1 _)
theorem Yn9 (s : Seq) : Xqc (Yq0 s) := Xa0 (Xa0 (Xa0 (Xkl _) (Xx9 _ _)) (Ygf _)) (Ygf _)
theorem Xrl {l : List Int} (h : Xi1 l = true) : (Ykf l).length ≤ 195 := by
 have h1 := Xm7 h
 unfold Xi1 at h
 rw [Bool.and_eq_true] at h
 have := Yj2 h.2
 have := Xev l.length (by omega)
 unfold Ykf; rw [List.length_append]; omega
theorem Xzn {s : Seq} (h : Xkz s = true) : 1 ≤ s.Level ∧ s.Level ≤ 3 := by
 unfold Xkz at h
 rw [Bool.and_eq_true, decide_eq_true_eq] at h
 have := h.1
 unfold Xlt at this
 repeat' split at this
 all_goals omega
theorem Yjv {s : Seq} (h : Xkz s = true) : (Yq0 s).length ≤ 433 := by
 obtain ⟨h1, h2, _⟩ := Xhd h
 have h3 := Xzn h
 have := Xrl h1
 have := Xrl h2
 have := Xev s.Level.toNat (by omega)
 unfold Yq0; simp only [List.length_append, Xjh]; omega
theorem Yg9 (l : List Int) (ha : l.all Xlu = true) (h4 : l.length ≤ 4) (f : (ByteArray × Int) → Option (Lp (ByteArray × Int) ByteArray))
  (h : ∀ (i : Nat) (s : List Int) (x : Int), i < l.length → s.length ≤ 1000 → l.getD i 0 = x → f (strOfNums s, (i : Int)) = some (.go (strOfNums (s ++ ueL x.toNat), ((i + 1 : Nat) : Int)))) (h0 : ∀ s, f (s, (l.length : Int)) = some (.done s)) (s : List Int) (hs : s.length ≤ 500) : loop f (strOfNums s, 0) = some (strOfNums (s ++ Ym1 l)) := by
 have key : ∀ (r a : List Int) (s : List Int), l = a ++ r → s.length + 39 * r.length ≤ 800 → loop f (strOfNums s, (a.length : Int)) = some (strOfNums (s ++ Ym1 r)) := by
  intro r
  induction r with
  | nil => intro a s ha _; rw [List.append_nil] at ha; rw [← ha, Xbu (h0 _), Ym1, List.append_nil]
  | cons x r ih =>
   intro a s hl hsl
   have hlen : a.length < l.length := by rw [hl]; simp
   have hx : l.getD a.length 0 = x := by rw [hl]; exact Xhz a x _ r
   have hxs : 1 ≤ x ∧ x ≤ 8 := by simpa [Xlu] using List.all_eq_true.1 ha x (by rw [hl]; simp)
   have := Xev x.toNat (by omega)
   rw [List.length_cons] at hsl
   have hn := ih (a ++ [x]) (s ++ ueL x.toNat) (by rw [hl]; simp) (by rw [List.length_append]; omega)
   rw [List.length_append, List.length_singleton] at hn
   rw [Xe5 (h a.length s x hlen (by omega) hx), hn, Ym1, List.append_assoc]
 exact key l [] s rfl (by omega)
theorem Xou (l : List Int) (h : Xi1 l = true) : Xhr l = some (strOfNums (Ykf l)) := by
 have h1 := Xm7 h
 have ha : l.all Xlu = true := by unfold Xi1 at h; rw [Bool.and_eq_true] at h; exact h.2
 have := Xev l.length (by omega)
 unfold Xhr
 rw [Xb5 _ (by omega), Xad, Yg9 l ha h1.2 (Xfn l) (by
  intro i s x hi hs hx
  have hxs : 1 ≤ x ∧ x ≤ 8 := by rw [Xde l i hi] at hx; simpa [Xlu, hx] using List.all_eq_true.1 ha _ (List.getElem_mem hi)
  have := Xev x.toNat (by omega)
  unfold Xfn
  simp only [Int.toNat_natCast, hx]
  rw [syA, rqA, show x = ((x.toNat : Nat) : Int) by omega, Xb5 _ (by omega), Xad, Xa4 (by simp only [strOfNums_size]; omega), wkA, Xa6]
  rfl) (by intro s; unfold Xfn; simp only; rw [snA]) _ (by omega), Xad]
 rfl
theorem Yc7 (s : Seq) (h : Xkz s = true) : Xlf s = some (strOfNums (Yq0 s)) := by
 obtain ⟨h1, h2, h3⟩ := Xhd h
 have h4 := Xzn h
 have := Xrl h1
 have := Xrl h2
 have := Xev s.Level.toNat (by omega)
 unfold Xlf
 rw [show s.Level = ((s.Level.toNat : Nat) : Int) by omega, Xb5 _ (by omega), Xad, show (4 : Int) = ((4 : Nat) : Int) from rfl, Xma _ 4 (by omega) (by omega) (by omega), Xad, Xa4 (by simp only [strOfNums_size, Xjh]; omega), Xou _ h1, Xad, Xa6, Xa4 (by simp only [strOfNums_size, List.length_append, Xjh]; omega), Xou _ h2, Xad, Xa6, Xa4 (by simp only [strOfNums_size, List.length_append, Xjh]; omega), Xa6]
 rfl
def Xmm (s : Xcw) : List ByteArray := if Xg2 s = true then [strOfNums (7 :: Yqf (Yq0 s.Seq)), strOfNums (8 :: Yqf (Yqu s.Par))] else []
theorem Xl2 {s : Xcw} (h : Xg2 s = true) : Xkz s.Seq = true ∧ Xrm s.Par = true := by
 unfold Xg2 at h
 simp only [Bool.and_eq_true, decide_eq_true_eq] at h
 exact ⟨Yg8 h.1.1.1.1.1, h.1.1.1.1.2⟩
theorem Xsh (s : Xcw) (hb : (Lit.int .i64 s.Seq.Bits).wf = true) : Xdp s = some (Xmm s) := by
 unfold Xdp Xmm
 rw [Xg5 s hb, Xad, Xzl]
 cases h : Xg2 s with
 | false => rfl
 | true =>
  obtain ⟨h1, h2⟩ := Xl2 h
  have := Yjv h1
  rw [Xbi, Yc7 _ h1, Xad, Xl8 7 _ rfl (Yn9 _) (by omega), Xad, Yc5 _ h2, Xad, Xl8 8 _ rfl (Yny _) (by rw [Yjk]; omega), Xad]
  rfl
def Yli (n : Int) : Nat := if n > 0 then (2 * n - 1).toNat else (-2 * n).toNat
theorem Yb8 (n : Int) (h : -500000 ≤ n ∧ n ≤ 500000) : Xk0 n = some ((Yli n : Int), true) := by
 unfold Xk0 Yli
 rw [Xaj, Xad, Xzl, Xbh h, Yme, wkA (e := 2 * n), wkA, wkA]
 split
 ·
  rw [Int.toNat_of_nonneg (by omega)]
 ·
  rw [Int.toNat_of_nonneg (by omega)]
theorem Yiv (n : Int) (h : -500000 ≤ n ∧ n ≤ 500000) : Yli n ≤ 1000000 := by unfold Yli; split <;> omega
def seL (n : Int) : List Int := ueL (Yli n)
theorem Xql (n : Int) (h : -500000 ≤ n ∧ n ≤ 500000) : (seL n).length ≤ 39 := (Xev _ (Yiv n h)).1
theorem Xil (n : Int) (h : -500000 ≤ n ∧ n ≤ 500000) : Xf7 n = some (strOfNums (seL n)) := by
 unfold Xf7
 rw [Yb8 n h, Xad, Xb5 _ (Yiv n h), Xad]; rfl
def Yh0 (x : Int) : Bool := decide (-5000 ≤ x ∧ x ≤ 5000)
theorem Yjf {x : Int} : Yh0 x = true ↔ -5000 ≤ x ∧ x ≤ 5000 := by simp [Yh0]
def nz : List Int → Nat
 | [] => 0
 | x :: r => if x = 0 then nz r else nz r + 1
theorem Ypn : ∀ l : List Int, nz l ≤ l.length
 | [] => by simp [nz]
 | x :: r => by rw [nz, List.length_cons]; have := Ypn r; split <;> omega
def Xvp : Nat → List Int → List Int
 | _, [] => []
 | g, x :: r => if x = 0 then Xvp (g + 1) r else ueL g ++ seL x ++ Xvp 0 r
def Yez (l : List Int) : List Int := ueL (nz l) ++ Xvp 0 l
theorem Xzk : ∀ (l : List Int) (g : Nat), Xqc (Xvp g l)
 | [], _ => Xlo
 | x :: r, g => by
  rw [Xvp]
  split
  ·
   exact Xzk r _
  ·
   exact Xa0 (Xa0 (Xkl _) (Xkl _)) (Xzk r _)
theorem Xrq : ∀ (l : List Int) (g : Nat), l.all Yh0 = true → g + l.length ≤ 1000 → (Xvp g l).length ≤ 78 * l.length
 | [], _, _, _ => by simp [Xvp]
 | x :: r, g, h, hg => by
  rw [List.all_cons, Bool.and_eq_true, Yjf] at h
  rw [List.length_cons] at hg ⊢
  rw [Xvp]
  split
  ·
   have := Xrq r (g + 1) h.2 (by omega); omega
  ·
   have := Xrq r 0 h.2 (by omega)
   have a := Xev g (by omega)
   have b := Xql x (by omega)
   simp only [List.length_append]; omega
theorem Xn9 (l : List Int) : Xqc (Yez l) := Xa0 (Xkl _) (Xzk _ _)
theorem Xh6 (l : List Int) (h : l.all Yh0 = true) (hl : l.length ≤ 64) : (Yez l).length ≤ 39 + 78 * l.length := by
 have := Xrq l 0 h (by omega)
 have := Ypn l
 have := Xev (nz l) (by omega)
 unfold Yez; rw [List.length_append]; omega
theorem Xfs (l : List Int) (h : l.all Yh0 = true) (hl : l.length ≤ 64) : Xc5 l = some (strOfNums (Yez l)) := by
 unfold Xc5
 have key : ∀ (r a : List Int) (n g : Nat) (s : List Int), l = a ++ r → n ≤ a.length → g ≤ a.length → s.length ≤ 78 * a.length → loop (Xdx l) ((n : Int), (g : Int), strOfNums s, (a.length : Int)) = some (((n + nz r : Nat) : Int), strOfNums (s ++ Xvp g r)) := by
  intro r
  induction r with
  | nil =>
   intro a n g s ha _ _ _
   rw [List.append_nil] at ha
   refine Xiz ?_
   unfold Xdx
   simp only
   rw [Xay (by rw [ha]; omega), nz, Xvp, List.append_nil]; rfl
  | cons x r ih =>
   intro a n g s ha hn hg hs
   have hlen : a.length < l.length := by rw [ha]; simp
   have hx : l.getD a.length 0 = x := by rw [ha]; exact Xhz a x _ r
   have hxi : -5000 ≤ x ∧ x ≤ 5000 := Yjf.1 (List.all_eq_true.1 h x (by rw [ha]; simp))
   by_cases e : x = 0
   ·
    have hnext := ih (a ++ [x]) n (g + 1) s (by rw [ha]; simp) (by simp; omega) (by simp; omega) (by simp; omega)
    rw [List.length_append, List.length_singleton] at hnext
    rw [nz, Xvp, if_pos e, if_pos e, ← hnext]
    refine Xe5 ?_
    unfold Xdx
    simp only [Int.toNat_natCast, hx]
    rw [syA, rqA, Xa8 (by simpa using e), Xad, wkA, wkA]
    rfl
   ·
    have u1 := Xev g (by omega)
    have u2 := Xql x (by omega)
    have hnext := ih (a ++ [x]) (n + 1) 0 (s ++ ueL g ++ seL x) (by rw [ha]; simp) (by simp; omega) (by omega) (by simp only [List.length_append, List.length_singleton]; omega)
    rw [List.length_append, List.length_singleton] at hnext
    rw [nz, Xvp, if_neg e, if_neg e, show n + (nz r + 1) = n + 1 + nz r by omega, ← List.append_assoc, ← List.append_assoc, ← hnext]
    refine Xe5 ?_
    unfold Xdx
    simp only [Int.toNat_natCast, hx]
    rw [syA, rqA, Xa5 (by simpa using e), Xb5 g (by omega), Xad, Xa4 (by simp only [strOfNums_size]; omega), rqA, Xil x (by omega), Xad, Xa6, Xa4 (by simp only [strOfNums_size, List.length_append]; omega), Xa6, Xad, wkA, wkA]
    rfl
 have := key l [] 0 0 [] rfl (by omega) (by omega) (by simp)
 refine (Xjr this).trans ?_
 have hz := Ypn l
 have u := Xev (nz l) (by omega)
 have b := Xrq l 0 h (by omega)
 simp only [Nat.zero_add, List.nil_append]
 rw [Xb5 _ (by omega), Xad, Xa4 (by simp only [strOfNums_size]; omega), Xa6]
 rfl
def Ygm (l : List Int) : Bool := decide (l.length = 64) && l.all Yh0
theorem Ync (p : Int → Bool) (l : List Int) (f : Int → Option (Lp Int (Ou Unit Bool))) (h : ∀ i : Nat, i < l.length → f (i : Int) = sel (!(p (l.getD i 0))) (some (.done (.ret false))) (some (.go ((i + 1 : Nat) : Int)))) (h0 : f (l.length : Int) = some (.done (.out ()))) :
  loop f 0 = some (if l.all p = true then .out () else .ret false) := by
 have key : ∀ (r a : List Int), l = a ++ r → loop f (a.length : Int) = some (if r.all p = true then .out () else .ret false) := by
  intro r
  induction r with
  | nil => intro a ha; rw [List.append_nil] at ha; rw [← ha, Xbu h0]; rfl
  | cons x r ih =>
   intro a ha
   have hlen : a.length < l.length := by rw [ha]; simp
   have hx : l.getD a.length 0 = x := by rw [ha]; exact Xhz a x _ r
   have hs := h a.length hlen
   rw [hx] at hs
   cases e : p x with
   | true =>
    rw [e] at hs
    have := ih (a ++ [x]) (by rw [ha]; simp)
    rw [List.length_append, List.length_singleton] at this
    rw [Xe5 hs, this, List.all_cons, e, Bool.true_and]
   | false => rw [e] at hs; rw [Xbu hs, List.all_cons, e, Bool.false_and]; rfl
 exact key l [] rfl
theorem Yc8 (l : List Int) : Xbj l 64 5000 = some (Ygm l) := by
 unfold Xbj Ygm
 by_cases h : l.length = 64
 ·
  rw [Xa5 (by simp only [bne_eq_false_iff_eq]; omega), Ync Yh0 l (Xci l 64 5000) (by
   intro i hi
   unfold Xci
   rw [syA, rqA, wkA (e := 0 - 5000), Xaj, Xad, wkA, Int.toNat_natCast]
   rfl) (by unfold Xci; rw [snA]), Xad, decide_eq_true h, Bool.true_and]
  cases l.all Yh0 <;> rfl
 ·
  rw [Xa8 (by simp only [bne_iff_ne, ne_eq]; omega), decide_eq_false h, Bool.false_and]
theorem Xtp {l : List Int} (h : Ygm l = true) : l.length = 64 ∧ l.all Yh0 = true := by
 unfold Ygm at h; rw [Bool.and_eq_true, decide_eq_true_eq] at h; exact h
def Yoz (l : List Int) (c : Xmb) : List Int := if (c.Large || c.Exact) = true then Yez l else Yez (l.take 16) ++ Yez ((l.drop 16).take 16) ++ Yez ((l.drop 32).take 16) ++ Yez (l.drop 48)
theorem Xks {l : List Int} (h : l.all Yh0 = true) (n : Nat) : (l.take n).all Yh0 = true := List.all_eq_true.2 fun x hx => List.all_eq_true.1 h x (List.mem_of_mem_take hx)
theorem Xkr {l : List Int} (h : l.all Yh0 = true) (n : Nat) : (l.drop n).all Yh0 = true := List.all_eq_true.2 fun x hx => List.all_eq_true.1 h x (List.mem_of_mem_drop hx)
theorem Yjb (l : List Int) (c : Xmb) : Xqc (Yoz l c) := by
 unfold Yoz
 split
 ·
  exact Xn9 l
 ·
  exact Xa0 (Xa0 (Xa0 (Xn9 _) (Xn9 _)) (Xn9 _)) (Xn9 _)
theorem Xyc {l : List Int} {c : Xmb} (h : Ygm l = true) : (Yoz l c).length ≤ 5148 := by
 obtain ⟨h1, h2⟩ := Xtp h
 unfold Yoz
 split
 ·
  have := Xh6 l h2 (by omega); omega
 ·
  have a := Xh6 (l.take 16) (Xks h2 _) (by rw [List.length_take]; omega)
  have b := Xh6 ((l.drop 16).take 16) (Xks (Xkr h2 _) _) (by rw [List.length_take, List.length_drop]; omega)
  have c := Xh6 ((l.drop 32).take 16) (Xks (Xkr h2 _) _) (by rw [List.length_take, List.length_drop]; omega)
  have d := Xh6 (l.drop 48) (Xkr h2 _) (by rw [List.length_drop]; omega)
  rw [List.length_take] at a
  rw [List.length_take, List.length_drop] at b c
  rw [List.length_drop] at d
  simp only [List.length_append]; omega
theorem Xp9 (l : List Int) (c : Xmb) (h : Ygm l = true) : Xjf l c = some (strOfNums (Yoz l c)) := by
 obtain ⟨h1, h2⟩ := Xtp h
 unfold Xjf Yoz
 rw [Xrs, Xad]
 by_cases e : (c.Large || c.Exact) = true
 ·
  rw [Xa8 e, if_pos e, Xfs l h2 (by omega), Xad]
 ·
  rw [Xa5 (by simpa using e), if_neg e]
  have a := Xh6 (l.take 16) (Xks h2 _) (by rw [List.length_take]; omega)
  have b := Xh6 ((l.drop 16).take 16) (Xks (Xkr h2 _) _) (by rw [List.length_take, List.length_drop]; omega)
  have c := Xh6 ((l.drop 32).take 16) (Xks (Xkr h2 _) _) (by rw [List.length_take, List.length_drop]; omega)
  have d := Xh6 (l.drop 48) (Xkr h2 _) (by rw [List.length_drop]; omega)
  have s1 := Xfs (l.take 16) (Xks h2 _) (by rw [List.length_take]; omega)
  have s2 := Xfs ((l.drop 16).take 16) (Xks (Xkr h2 _) _) (by rw [List.length_take, List.length_drop]; omega)
  have s3 := Xfs ((l.drop 32).take 16) (Xks (Xkr h2 _) _) (by rw [List.length_take, List.length_drop]; omega)
  have s4 := Xfs (l.drop 48) (Xkr h2 _) (by rw [List.length_drop]; omega)
  rw [List.length_take] at a
  rw [List.length_take, List.length_drop] at b c
  rw [List.length_drop] at d
  rw [show ((16 : Int).toNat - (0 : Int).toNat) = 16 from rfl, show (0 : Int).toNat = 0 from rfl, List.drop_zero, show ((32 : Int).toNat - (16 : Int).toNat) = 16 from rfl, show (16 : Int).toNat = 16 from rfl, show ((48 : Int).toNat - (32 : Int).toNat) = 16 from rfl, show (32 : Int).toNat = 32 from rfl, show (48 : Int).toNat = 48 from rfl, Int.toNat_natCast, Xyv]
  rw [rqA, s1, Xad, rqA, s2, Xad, Xa4 (by simp only [strOfNums_size]; omega), rqA, s3, Xad, Xa6, Xa4 (by simp only [strOfNums_size, List.length_append]; omega), rqA, s4, Xad, Xa6, Xa4 (by simp only [strOfNums_size, List.length_append]; omega), Xa6]
def Xps (c : Xmb) : Bool := decide (0 ≤ c.Qp ∧ c.Qp ≤ 40) && !(c.Large && c.Exact)
theorem Xgk (c : Xmb) : Xd8 c = some (Xps c) := by
 unfold Xd8 Xps
 rw [Xaj, Xad, Xki, Xc9, Xad]
 cases c.Large <;> cases c.Exact <;> rfl
def Xve (s : Xbc) : Bool :=
 if s.Kind = 0 then decide (s.Mode = 0 ∧ s.Dx = 0 ∧ s.Dy = 0 ∧ s.Levels.length = 0)
 else if s.Kind = 1 then decide (s.Mode = 0) && (decide (-16 ≤ s.Dx ∧ s.Dx ≤ 16) && (decide (-16 ≤ s.Dy ∧ s.Dy ≤ 16) && Ygm s.Levels))
 else if s.Kind = 2 then decide (0 ≤ s.Mode ∧ s.Mode ≤ 3) && (decide (s.Dx = 0) && (decide (s.Dy = 0) && Ygm s.Levels))
 else false
theorem Yk7 (a b : Int) : (a == b) = decide (a = b) := by rw [Bool.eq_iff_iff]; simp
theorem Xwm (s : Xbc) : Xig s = some (Xve s) := by
 unfold Xig Xve
 simp only [Xaj, Yc8, Xad, Xc9, Yk7]
 simp only [Yme]
 by_cases h0 : s.Kind = 0
 ·
  rw [if_pos h0, if_pos h0]; congr 1; rw [Bool.eq_iff_iff]; simp
 ·
  rw [if_neg h0, if_neg h0]
  by_cases h1 : s.Kind = 1
  ·
   rw [if_pos h1, if_pos h1]
  ·
   rw [if_neg h1, if_neg h1]
   by_cases h2 : s.Kind = 2
   ·
    rw [decide_eq_true h2, Bool.true_and, if_pos h2]
   ·
    rw [decide_eq_false h2, Bool.false_and, if_neg h2]
def sqL (s : Xbc) (c : Xmb) : List Int :=
 (if c.Key = true then [] else ueL s.Kind.toNat) ++
 (if s.Kind = 1 then seL s.Dx ++ seL s.Dy ++ Yoz s.Levels c else if s.Kind = 2 then ueL s.Mode.toNat ++ Yoz s.Levels c else [])
theorem Ybq {s : Xbc} (h : Xve s = true) : 0 ≤ s.Kind ∧ s.Kind ≤ 2 := by
 unfold Xve at h
 repeat' split at h
 all_goals first | omega | simp at h
theorem Yfg {s : Xbc} (h : Xve s = true) (h1 : s.Kind = 1) : (-16 ≤ s.Dx ∧ s.Dx ≤ 16) ∧ (-16 ≤ s.Dy ∧ s.Dy ≤ 16) ∧ Ygm s.Levels = true := by
 unfold Xve at h
 rw [if_neg (by omega), if_pos h1] at h
 simp only [Bool.and_eq_true, decide_eq_true_eq] at h
 exact ⟨h.2.1, h.2.2.1, h.2.2.2⟩
theorem Yfh {s : Xbc} (h : Xve s = true) (h1 : s.Kind = 2) : (0 ≤ s.Mode ∧ s.Mode ≤ 3) ∧ Ygm s.Levels = true := by
 unfold Xve at h
 rw [if_neg (by omega), if_neg (by omega), if_pos h1] at h
 simp only [Bool.and_eq_true, decide_eq_true_eq] at h
 exact ⟨h.1, h.2.2.2⟩
theorem Ymk (s : Xbc) (c : Xmb) : Xqc (sqL s c) := by
 unfold sqL
 refine Xa0 ?_ ?_
 ·
  split
  ·
   exact Xlo
  ·
   exact Xkl _
 ·
  split
  ·
   exact Xa0 (Xa0 (Xkl _) (Xkl _)) (Yjb _ _)
  ·
   split
   ·
    exact Xa0 (Xkl _) (Yjb _ _)
   ·
    exact Xlo
theorem Yml {s : Xbc} {c : Xmb} (h : Xve s = true) : (sqL s c).length ≤ 5265 := by
 have hk := Ybq h
 have u := Xev s.Kind.toNat (by omega)
 have e1 : (if c.Key = true then [] else ueL s.Kind.toNat).length ≤ 39 := by split; simp; exact u.1
 unfold sqL
 rw [List.length_append]
 by_cases h1 : s.Kind = 1
 ·
  obtain ⟨a, b, d⟩ := Yfg h h1
  have x := Xql s.Dx (by omega)
  have y := Xql s.Dy (by omega)
  have z := Xyc (c := c) d
  rw [if_pos h1]; simp only [List.length_append]; omega
 ·
  by_cases h2 : s.Kind = 2
  ·
   obtain ⟨a, d⟩ := Yfh h h2
   have x := Xev s.Mode.toNat (by omega)
   have z := Xyc (c := c) d
   rw [if_neg h1, if_pos h2]; simp only [List.length_append]; omega
  ·
   rw [if_neg h1, if_neg h2]; simp only [List.length_nil]; omega
theorem Yde (s : Xbc) (c : Xmb) (h : Xve s = true) : Xli s c = some (strOfNums (sqL s c)) := by
 have hk := Ybq h
 have u := Xev s.Kind.toNat (by omega)
 unfold Xli
 have e1 : (sel (!c.Key) (bnd (Xb0 s.Kind) fun q2 => some q2) (some ⟨#[]⟩)) = some (strOfNums (if c.Key = true then [] else ueL s.Kind.toNat)) := by
  rw [show s.Kind = ((s.Kind.toNat : Nat) : Int) by omega, Xb5 _ (by omega), Xad, Int.toNat_natCast]
  cases c.Key <;> rfl
 rw [e1, Xad]
 have e2 : (if c.Key = true then [] else ueL s.Kind.toNat).length ≤ 39 := by split; simp; exact u.1
 unfold sqL
 generalize (if c.Key = true then [] else ueL s.Kind.toNat) = k at e2 ⊢
 by_cases h1 : s.Kind = 1
 ·
  obtain ⟨a, b, d⟩ := Yfg h h1
  have x := Xql s.Dx (by omega)
  have y := Xql s.Dy (by omega)
  have z := Xyc (c := c) d
  rw [if_pos h1, Xa8 (by simpa using h1), Xil _ (by omega), Xad, Xa4 (by simp only [strOfNums_size]; omega), Xil _ (by omega), Xad, Xa6, Xa4 (by simp only [strOfNums_size, List.length_append]; omega), Xp9 _ c d, Xad, Xa6, Xa4 (by simp only [strOfNums_size, List.length_append]; omega), Xa6]
  simp only [List.append_assoc]
 ·
  rw [if_neg h1, Xa5 (by simpa using h1)]
  by_cases h2 : s.Kind = 2
  ·
   obtain ⟨a, d⟩ := Yfh h h2
   have x := Xev s.Mode.toNat (by omega)
   have z := Xyc (c := c) d
   rw [if_pos h2, Xa8 (by simpa using h2), show s.Mode = ((s.Mode.toNat : Nat) : Int) by omega, Xb5 _ (by omega), Xad, Xa4 (by simp only [strOfNums_size]; omega), Xp9 _ c d, Xad, Xa6, Xa4 (by simp only [strOfNums_size, List.length_append]; omega), Xa6, Int.toNat_natCast]
   simp only [List.append_assoc]
  ·
   rw [if_neg h2, Xa5 (by simpa using h2), List.append_nil]
def Xqb : List Xbc → Xmb → List Int
 | [], _ => []
 | s :: r, c => sqL s c ++ Xqb r c
theorem Yea : ∀ (l : List Xbc) (c : Xmb), Xqc (Xqb l c)
 | [], _ => Xlo
 | s :: r, c => Xa0 (Ymk s c) (Yea r c)
theorem Yip (b : ByteArray) (i : Int) : 0 ≤ Xta b i ∧ Xta b i ≤ 255 := by
 unfold Xta
 split
 ·
  rename_i h
  have := (b[i.toNat]'h).toNat_lt
  omega
 ·
  omega
theorem Xc8 {p : Pic} (h : Xeu p = true) : (1 ≤ p.Wide ∧ p.Wide ≤ 256) ∧ (1 ≤ p.High ∧ p.High ≤ 256) ∧ (p.Dots.size : Int) = p.Wide * p.High := by
 unfold Xeu at h
 simp only [Bool.and_eq_true, decide_eq_true_eq, beq_iff_eq] at h
 exact ⟨h.1, h.2.1, h.2.2⟩
theorem Xyf {p : Pic} (h1 : 1 ≤ p.Wide ∧ p.Wide ≤ 256) (h2 : 1 ≤ p.High ∧ p.High ≤ 256) (h3 : (p.Dots.size : Int) = p.Wide * p.High) : Xeu p = true := by
 unfold Xeu
 simp only [Bool.and_eq_true, decide_eq_true_eq, beq_iff_eq]
 exact ⟨h1, h2, h3⟩
def Yj8 (p : Pic) (x y : Int) : Int := Xta p.Dots (Xdd y 0 (p.High - 1) * p.Wide + Xdd x 0 (p.Wide - 1))
theorem Xmz (p : Pic) (x y : Int) : 0 ≤ Yj8 p x y ∧ Yj8 p x y ≤ 255 := Yip _ _
theorem Yld {p : Pic} (ok : Xeu p = true) (x y : Int) : 0 ≤ Xdd y 0 (p.High - 1) * p.Wide + Xdd x 0 (p.Wide - 1) ∧ Xdd y 0 (p.High - 1) * p.Wide + Xdd x 0 (p.Wide - 1) < p.Dots.size ∧ 0 ≤ Xdd y 0 (p.High - 1) * p.Wide ∧ Xdd y 0 (p.High - 1) * p.Wide ≤ 65536 := by
 obtain ⟨h1, h2, h3⟩ := Xc8 ok
 have b1 := Xmd (n := y) (a := 0) (b := p.High - 1) (by omega)
 have b2 := Xmd (n := x) (a := 0) (b := p.Wide - 1) (by omega)
 have m1 := Int.mul_nonneg b1.1 (show 0 ≤ p.Wide by omega)
 have m2 := Int.mul_le_mul_of_nonneg_right b1.2 (show 0 ≤ p.Wide by omega)
 have m3 : (p.High - 1) * p.Wide = p.Wide * p.High - p.Wide := by rw [Int.sub_mul, Int.one_mul, Int.mul_comm]
 have m4 := (Xkt h1 h2).2
 omega
theorem Xia {p : Pic} (ok : Xeu p = true) (x y : Int) : Xdh p x y = some (Yj8 p x y) := by
 obtain ⟨h1, h2, h3⟩ := Xc8 ok
 unfold Xdh Yj8
 rw [Xcd, Xad, ok, Bool.not_true, Xbf, Xcp, Xad, Xcp, Xad, wkA (e := p.High - 1), wkA (e := p.Wide - 1)]
 obtain ⟨p1, p2, p3, p4⟩ := Yld ok x y
 have b2 := Xmd (n := x) (a := 0) (b := p.Wide - 1) (by omega)
 have br := Yip p.Dots (Xdd y 0 (p.High - 1) * p.Wide + Xdd x 0 (p.Wide - 1))
 rw [wkA (e := Xdd y 0 (p.High - 1) * p.Wide), wkA (e := Xdd y 0 (p.High - 1) * p.Wide + Xdd x 0 (p.Wide - 1)), Xa4 ⟨p1, p2⟩, wkA]
def Ynf (p : Pic) (x y : Int) (i : Nat) : Int := Yj8 p (x + ((i % 8 : Nat) : Int)) (y + ((i / 8 : Nat) : Int))
def Ykx (p : Pic) (x y : Int) (n : Nat) : List Int := (List.range n).map (Ynf p x y)
theorem Yk8 (p : Pic) (x y : Int) (n : Nat) : Ykx p x y (n + 1) = Ykx p x y n ++ [Ynf p x y n] := by simp [Ykx, List.range_succ]
theorem Xyq (p : Pic) (x y : Int) (n : Nat) : (Ykx p x y n).length = n := by simp [Ykx]
def Ylc (x : Int) : Bool := decide (0 ≤ x ∧ x ≤ 255)
def Xeb (l : List Int) : Bool := decide (l.length = 64) && l.all Ylc
theorem Xhy {l : List Int} (h : Xeb l = true) : l.length = 64 ∧ ∀ i : Nat, i < 64 → 0 ≤ l.getD i 0 ∧ l.getD i 0 ≤ 255 := by
 simp only [Xeb, Bool.and_eq_true, decide_eq_true_eq] at h
 refine ⟨h.1, fun i hi => ?_⟩
 have := List.all_eq_true.1 h.2 (l.getD i 0) (by rw [Xde l i (by omega)]; exact List.getElem_mem _)
 simpa [Ylc] using this
theorem Xmc (p : Pic) (x y : Int) : Xeb (Ykx p x y 64) = true := by
 simp only [Xeb, Xyq, decide_true, Bool.true_and, List.all_eq_true]
 intro z hz
 obtain ⟨i, _, rfl⟩ := List.mem_map.1 hz
 simp only [Ylc, decide_eq_true_eq]
 exact Xmz _ _ _
theorem Xe9 {p : Pic} (ok : Xeu p = true) (x y : Int) (hx : -1000 ≤ x ∧ x ≤ 1000) (hy : -1000 ≤ y ∧ y ≤ 1000) : Xc1 p x y = some (Ykx p x y 64) := by
 have hm : maxLen = 9223372036854775807 := rfl
 unfold Xc1
 rw [Xcd, Xad, ok, Xbi, Xaj, Xad, syA, Xaj, Xad, Xad, decide_eq_true (by omega), Bool.not_true, Xbf]
 have key : ∀ i : Nat, i ≤ 64 → loop (Xfa p x y) ((i : Int), Ykx p x y i) = some (Ykx p x y 64) := by
  refine Xm0 _ ?_ ?_
  ·
   exact Xiz (by unfold Xfa; rw [Xay (by simp)])
  ·
   intro i hi ih
   refine lgo (y := (((i + 1 : Nat) : Int), Ykx p x y (i + 1))) ?_ ih
   unfold Xfa
   simp only
   rw [syA, rqA, rqA, Xbo (by omega), Xce (by omega), wkA (e := (i : Int) / 8), wkA (e := x + (i : Int) % 8), wkA (e := y + (i : Int) / 8), Xia ok, Xad, Xa4 (by rw [Xyq]; simp only [List.length_singleton]; omega), wkA (e := (i : Int) + 1)]
   have e2 : Yj8 p (x + (i : Int) % 8) (y + (i : Int) / 8) = Ynf p x y i := by unfold Ynf; congr 1
   rw [e2, ← Yk8]
   rfl
 have := key 0 (by omega)
 exact (Xjr this).trans rfl
def Yhb (x : Int) : Int := if x < 0 then -x else x
def Xvg (a b : List Int) : Nat → Int
 | 0 => 0
 | n + 1 => Xvg a b n + Yhb (a.getD n 0 - b.getD n 0)
theorem Xu6 {a b : List Int} (ha : Xeb a = true) (hb : Xeb b = true) : ∀ n : Nat, n ≤ 64 → 0 ≤ Xvg a b n ∧ Xvg a b n ≤ 255 * n
 | 0, _ => by simp [Xvg]
 | n + 1, h => by
  have ih := Xu6 ha hb n (by omega)
  have p := (Xhy ha).2 n (by omega)
  have q := (Xhy hb).2 n (by omega)
  simp only [Xvg, Yhb]
  split <;> omega
def Yrl (d : Int) : Int := ((seL d).length : Int)
theorem Ya9 (c : Xau) (n : Int) (hc : Xdb c) (h0 : 0 ≤ n) (h1 : n ≤ 100000) : ∃ s c', Xj3 c n = some (s, c') ∧ (s.size : Int) = n ∧ Xdb c' := by
 have hm : maxLen = 9223372036854775807 := rfl
 unfold Xj3
 obtain ⟨z, c0, ez, z0, z1, hz⟩ := Xb9 c hc
 rw [ez, Xad]
 simp only
 obtain ⟨o, h, h2, h3⟩ := Xew (f := Xis n) (fun v => (0 ≤ v.1 ∧ v.1 ≤ 255) ∧ 0 ≤ v.2.1 ∧ v.2.1 ≤ n ∧ Xdb ⟨v.2.2.1, v.2.2.2.1, v.2.2.2.2.1⟩ ∧ (v.2.2.2.2.2.length : Int) = v.2.1) (fun v => (n - v.2.1).toNat) (fun _ o => (o.1.length : Int) = n ∧ Xdb ⟨o.2.1, o.2.2.1, o.2.2.2⟩) (by
  intro ⟨w, i, b, j, h, l⟩ ⟨hw, h1, h2, h3, h4⟩
  unfold Xis
  simp only at hw h1 h2 h3 h4 ⊢
  by_cases hi : i < n
  ·
   rw [Xbh hi]
   obtain ⟨x, c', ex, x0, x1, _, hx⟩ := Xaq _ 6 h3
   rw [ex, Xad]
   simp only
   have step : ∃ w' c2, (sel (x == 0) (bnd (Xbl c') fun q16 => some (q16.1, q16.2.b_, q16.2.i_, q16.2.h_)) (sel (x == 1) (bnd (Xas c' 9) fun q17 => some ((IntKind.wrap .i64 (BitVec.ofInt (IntKind.bits .i64) (Xaa .i64 ((Xaa .i64 (w + q17.1)) + 252)) &&& BitVec.ofInt (IntKind.bits .i64) 255).toNat), q17.2.b_, q17.2.i_, q17.2.h_)) (some (w, c'.b_, c'.i_, c'.h_)))) = some (w', c2.b_, c2.i_, c2.h_) ∧ (0 ≤ w' ∧ w' ≤ 255) ∧ Xdb c2 := by
    cases e0 : (x == 0) with
    | true =>
     obtain ⟨y, c2, ey, y0, y1, hy⟩ := Xb9 c' hx
     rw [Xbi, ey, Xad]
     exact ⟨y, c2, rfl, ⟨y0, y1⟩, hy⟩
    | false =>
     rw [Xbf]
     cases e1 : (x == 1) with
     | true =>
      obtain ⟨y, c2, ey, y0, y1, _, hy⟩ := Xaq c' 9 hx
      rw [Xbi, ey, Xad]
      exact ⟨_, c2, rfl, Xym _, hy⟩
     | false => rw [Xbf]; exact ⟨w, c', rfl, hw, hx⟩
   obtain ⟨w', c2, es, hw', hc2⟩ := step
   rw [es, Xad, Xa4 (by rw [hm]; simp only [List.length_singleton]; omega)]
   refine .inr ⟨_, rfl, ?_, ?_, fun _ h => h⟩
   ·
    simp only
    rw [wkA (e := i + 1)]
    exact ⟨hw', by omega, by omega, hc2, by simp; omega⟩
   ·
    simp only; rw [wkA (e := i + 1)]; omega
  ·
   rw [Xay hi]
   exact .inl ⟨_, rfl, by simp only; omega, h3⟩) (z, 0, c0.b_, c0.i_, c0.h_, []) ⟨⟨z0, z1⟩, by simp, h0, hz, by simp⟩
 rw [h, Xad]
 exact ⟨_, _, rfl, by rw [strOfNums_size]; exact h2, h3⟩
theorem Xxq (c : Xau) (w h : Int) (hc : Xdb c) (hw : 1 ≤ w ∧ w ≤ 256) (hh : 1 ≤ h ∧ h ≤ 256) : ∃ p c', Xit c w h = some (p, c') ∧ p.Wide = w ∧ p.High = h ∧ Xeu p = true ∧ Xdb c' := by
 have a := Xkt hw hh
 unfold Xit
 rw [wkA (e := w * h)]
 obtain ⟨s, c', e, hs, hc'⟩ := Ya9 c (w * h) hc (by omega) (by omega)
 rw [e, Xad]
 exact ⟨_, _, rfl, rfl, rfl, Xyf hw hh hs, hc'⟩
theorem Ybl (c : Xau) (p : Pic) (hc : Xdb c) (ok : Xeu p = true) : ∃ q c', Xj4 c p = some (q, c') ∧ q.Wide = p.Wide ∧ q.High = p.High ∧ Xeu q = true ∧ Xdb c' := by
 have hm : maxLen = 9223372036854775807 := rfl
 obtain ⟨k1, k2, k3⟩ := Xc8 ok
 have ar := Xkt k1 k2
 unfold Xj4
 obtain ⟨x, c1, e1, x0, x1, _, h1⟩ := Xaq c 7 hc
 obtain ⟨y, c2, e2, y0, y1, _, h2⟩ := Xaq c1 5 h1
 obtain ⟨z, c3, e3, h3⟩ := Xds c2 3 h2
 have x1' := x1 (by omega)
 have y1' := y1 (by omega)
 rw [e1, Xad]
 simp only
 rw [e2, Xad]
 simp only
 rw [e3, Xad]
 simp only
 rw [wkA (e := x - 3), wkA (e := y - 2)]
 have hv : ∃ a b : Int, (-10 ≤ a ∧ a ≤ 10) ∧ (-10 ≤ b ∧ b ≤ 10) ∧ sel z (some ((0 : Int), (0 : Int), c3.b_, c3.i_, c3.h_)) (some (x - 3, y - 2, c3.b_, c3.i_, c3.h_)) = some (a, b, c3.b_, c3.i_, c3.h_) := by
  cases z with
  | true => exact ⟨0, 0, by omega, by omega, rfl⟩
  | false => exact ⟨x - 3, y - 2, by omega, by omega, rfl⟩
 obtain ⟨a, b, ha, hb, hv⟩ := hv
 rw [hv, Xad]
 obtain ⟨o, h, ho⟩ := Xew (f := Xiw p (a, b, c3.b_, c3.i_, c3.h_)) (fun v => 0 ≤ v.1 ∧ v.1 ≤ (p.Dots.size : Int) ∧ (v.2.length : Int) = v.1) (fun v => ((p.Dots.size : Int) - v.1).toNat) (fun _ o => (o.length : Int) = (p.Dots.size : Int)) (by
  intro ⟨i, l⟩ ⟨g1, g2, g3⟩
  unfold Xiw
  simp only at g1 g2 g3 ⊢
  by_cases hi : i < (p.Dots.size : Int)
  ·
   rw [Xbh hi, rqA, rqA, Xia ok, Xad, Xa4 (by rw [hm]; simp only [List.length_singleton]; omega), wkA (e := i + 1)]
   exact .inr ⟨_, rfl, ⟨by simp only; omega, by simp only; omega, by simp; omega⟩, by simp only; omega, fun _ h => h⟩
  ·
   rw [Xay hi]
   exact .inl ⟨_, rfl, by omega⟩) (0, []) ⟨by simp, by simp, by simp⟩
 rw [h, Xad]
 obtain ⟨o2, h', g1, g2⟩ := Xew (f := Xix) (fun v => 0 ≤ v.1 ∧ v.1 ≤ 6 ∧ Xdb ⟨v.2.1, v.2.2.1, v.2.2.2.1⟩ ∧ (v.2.2.2.2.length : Int) = p.Dots.size) (fun v => (6 - v.1).toNat) (fun _ o => (o.1.length : Int) = p.Dots.size ∧ Xdb ⟨o.2.1, o.2.2.1, o.2.2.2⟩) (by
  intro ⟨i, b, j, h, l⟩ ⟨g1, g2, g3, g4⟩
  unfold Xix
  simp only at g1 g2 g3 g4 ⊢
  obtain ⟨x, c', ex, x0, x1, _, hx⟩ := Xaq _ 6 g3
  have x1' := x1 (by omega)
  rw [ex, Xad]
  simp only
  by_cases hi : i < x
  ·
   obtain ⟨y, c2, ey, y0, y1, _, hy⟩ := Xaq c' l.length hx
   have y1' := y1 (by omega)
   obtain ⟨z, c3, ez, z0, z1, hz⟩ := Xb9 c2 hy
   rw [Xbh hi, ey, Xad]
   simp only
   rw [ez, Xad]
   simp only
   rw [rqA, rqA, wkA (e := i + 1)]
   exact .inr ⟨_, rfl, ⟨by simp only; omega, by simp only; omega, hz, by simp only [List.length_set]; omega⟩, by simp only; omega, fun _ h => h⟩
  ·
   rw [Xay hi]
   exact .inl ⟨_, rfl, g4, hx⟩) (0, c3.b_, c3.i_, c3.h_, o) ⟨by simp, by simp, h3, by simp only; omega⟩
 rw [h', Xad]
 refine ⟨_, _, rfl, rfl, rfl, Xyf k1 k2 ?_, g2⟩
 simp only
 rw [strOfNums_size]; omega
def Xh1 (p : Pic) (x y : Int) : Bool := decide (0 ≤ x ∧ x ≤ p.Wide - 8 ∧ 0 ≤ y ∧ y ≤ p.High - 8)
def rd (x : List Int) (i : Int) : Int := x.getD i.toNat 0
theorem Yo3 (x : List Int) (i : Int) : x.getD i.toNat 0 = rd x i := rfl
theorem Yps (s : ByteArray) (i : Int) : rd (Xbq s) i = Xta s i := by
 unfold rd Xbq Xta
 by_cases h : i.toNat < s.size
 ·
  rw [dif_pos h, List.getD_eq_getElem?_getD, List.getElem?_map, Array.getElem?_toList, Array.getElem?_eq_getElem h]
  rfl
 ·
  rw [dif_neg h, List.getD_eq_getElem?_getD, List.getElem?_eq_none (by rw [List.length_map, Array.length_toList]; exact Nat.le_of_not_lt h)]
  rfl
def tz (x : List Int) : Nat := (x.reverse.takeWhile (· == 0)).length
theorem Yih (x : List Int) : tz (x ++ [0]) = tz x + 1 := by simp [tz, List.takeWhile_cons]
theorem Yrc (x : List Int) (b : Int) (h : b ≠ 0) : tz (x ++ [b]) = 0 := by simp [tz, List.takeWhile_cons, h]
theorem Yrv (x : List Int) : tz x ≤ x.length := by
 have := List.Sublist.length_le (List.takeWhile_sublist (fun a : Int => a == 0) (l := x.reverse))
 simpa [tz] using this
theorem Yl8 (x : List Int) (b c : Int) : rd (x ++ [b, c]) ((x.length : Int) + 1) = c ∧ rd (x ++ [b, c]) (x.length : Int) = b := by
 constructor
 ·
  simp [rd, List.getD_eq_getElem?_getD, show ((x.length : Int) + 1).toNat = x.length + 1 from by omega]
 ·
  simp [rd, List.getD_eq_getElem?_getD]
theorem Yrd (x : List Int) : 2 ≤ tz x ↔ (2 ≤ x.length ∧ rd x ((x.length : Int) - 1) = 0 ∧ rd x ((x.length : Int) - 2) = 0) := by
 rcases List.eq_nil_or_concat x with rfl | ⟨y, c, rfl⟩
 ·
  simp [tz]
 ·
  rcases List.eq_nil_or_concat y with rfl | ⟨z, b, rfl⟩
  ·
   constructor
   ·
    intro h; have := Yrv ([].concat c); simp at this h; omega
   ·
    intro h; simp at h
  ·
   simp only [List.concat_eq_append, List.append_assoc, List.singleton_append]
   have e1 := (Yl8 z b c).1
   have e2 := (Yl8 z b c).2
   rw [show (((z ++ [b, c]).length : Nat) : Int) - 1 = (z.length : Int) + 1 by simp; omega, show (((z ++ [b, c]).length : Nat) : Int) - 2 = (z.length : Int) by simp, e1, e2]
   by_cases hc : c = 0
   ·
    by_cases hb : b = 0
    ·
     subst hc; subst hb
     rw [show z ++ [(0 : Int), 0] = (z ++ [0]) ++ [0] by simp, Yih, Yih]
     simp
    ·
     subst hc
     rw [show z ++ [b, (0 : Int)] = (z ++ [b]) ++ [0] by simp, Yih, Yrc _ _ hb]
     simp [hb]
   ·
    rw [show z ++ [b, c] = (z ++ [b]) ++ [c] by simp, Yrc _ _ hc]
    simp [hc]
def Xlx (x : List Int) (b : Int) : List Int := (if b < 4 ∧ 2 ≤ tz x then x ++ [3] else x) ++ [b]
def Ymy (x : List Int) (t : List Int) : List Int := t.foldl Xlx x
theorem Yit (x : List Int) : Ymy x [] = x := rfl
theorem Yfy (x : List Int) (b : Int) (t : List Int) : Ymy x (b :: t) = Ymy (Xlx x b) t := rfl
theorem Yn0 (a : List Int) (i : Nat) (h : i < a.length) : a.drop i = rd a i :: a.drop (i + 1) := by
 rw [List.drop_eq_getElem_cons h]; simp [rd, List.getD_eq_getElem?_getD, List.getElem?_eq_getElem h]
theorem Ynk (t : List Int) : ∀ x, (Ymy x t).length ≤ x.length + 2 * t.length := by
 induction t with
 | nil => intro x; rw [Yit]; simp
 | cons b t ih =>
  intro x
  rw [Yfy]
  have := ih (Xlx x b)
  have h2 : (Xlx x b).length ≤ x.length + 2 := by unfold Xlx; split <;> simp
  rw [List.length_cons]; omega
def Yhc (a : ByteArray) : ByteArray × Bool := if 1 ≤ a.size ∧ a.size ≤ 60000 ∧ Xta a ((a.size : Int) - 1) ≠ 0 then (strOfNums (Ymy [] (Xbq a)), true) else ((⟨#[]⟩ : ByteArray), false)
theorem Ylf (a : ByteArray) : (Yhc a).1.size ≤ 120000 := by
 unfold Yhc
 split
 ·
  rename_i h
  have := Ynk (Xbq a) []
  rw [Xb2, List.length_nil] at this
  simp only [strOfNums_size]
  omega
 ·
  exact Nat.zero_le _
def You : List ByteArray → List Int → ByteArray × Bool
 | [], x => (strOfNums x, true)
 | u :: us, x => if (Yhc u).2 = true then (if x.length + 3 + (Yhc u).1.size > 60000 then ((⟨#[]⟩ : ByteArray), false) else You us ((x ++ [0, 0, 1]) ++ Xbq (Yhc u).1)) else ((⟨#[]⟩ : ByteArray), false)
def Yhd (l : List ByteArray) : ByteArray × Bool := if l.length > 400 then ((⟨#[]⟩ : ByteArray), false) else You l []
theorem Yix : ∀ (l : List ByteArray) (x : List Int), x.length ≤ 60000 → (You l x).1.size ≤ 60000
 | [], x, h => by simpa [You, strOfNums_size] using h
 | u :: us, x, h => by
  rw [You]
  split
  ·
   split
   ·
    simp [ByteArray.size]
   ·
    rename_i h2
    refine Yix us _ ?_
    rw [List.length_append, Xb2, List.length_append]; simp; omega
  ·
   simp [ByteArray.size]
theorem Ylj (l : List ByteArray) : (Yhd l).1.size ≤ 60000 := by
 unfold Yhd
 split
 ·
  simp [ByteArray.size]
 ·
  exact Yix _ _ (by simp)
theorem Ypc (a : ByteArray) (x : List Int) (i : Nat) (h : i < a.size) : Ymy x ((Xbq a).drop i) = Ymy (Xlx x (Xta a i)) ((Xbq a).drop (i + 1)) := by
 rw [Yn0 _ i (by rw [Xb2]; exact h), Yfy, Yps]
theorem Ypd (a : ByteArray) (x : List Int) : Ymy x ((Xbq a).drop a.size) = x := by
 rw [List.drop_eq_nil_of_le (by rw [Xb2]; omega), Yit]
theorem Yhn (x : List Int) (b : Int) : (Xlx x b).length ≤ x.length + 2 := by unfold Xlx; split <;> simp
theorem Xst (a : ByteArray) (h : a.size ≤ 60000) : Xfm a = some (strOfNums (Ymy [] (Xbq a))) := by
 have hm : maxLen = 9223372036854775807 := rfl
 unfold Xfm
 have key : ∀ i : Nat, i ≤ a.size → ∀ x : List Int, x.length ≤ 2 * i → loop (Xc4 a) ((i : Int), x) = some (Ymy x ((Xbq a).drop i)) := by
  refine Xm0 _ ?_ ?_
  ·
   intro x _
   rw [Ypd]
   exact Xiz (by unfold Xc4; rw [Xay (by simp)])
  ·
   intro i hi ih x hx
   rw [Ypc a x i hi]
   have hl := Yhn x (Xta a i)
   refine lgo (y := (((i + 1 : Nat) : Int), Xlx x (Xta a i))) ?_ (ih _ (by omega))
   have ht := Yrd x
   have hc : (sel (decide ((x.length : Int) ≥ 2)) (
     req (0 ≤ (Xaa .i64 ((x.length : Int) - 1)) ∧ (Xaa .i64 ((x.length : Int) - 1)) < x.length) <|
     req ((Xaa .i64 ((x.length : Int) - 1)).toNat < x.length) <|
     sel ((x.getD ((Xaa .i64 ((x.length : Int) - 1)).toNat) 0) == 0) (
     req (0 ≤ (Xaa .i64 ((x.length : Int) - 2)) ∧ (Xaa .i64 ((x.length : Int) - 2)) < x.length) <|
     req ((Xaa .i64 ((x.length : Int) - 2)).toNat < x.length) <|
     sel ((x.getD ((Xaa .i64 ((x.length : Int) - 2)).toNat) 0) == 0) (
     req (0 ≤ (i : Int) ∧ (i : Int) < a.size) <|
     some (decide ((Xta a i) < 4))) (
     some false)) (
     some false)) (
     some false)) = some (decide (Xta a i < 4 ∧ 2 ≤ tz x)) := by
    rw [wkA (e := (x.length : Int) - 1), wkA (e := (x.length : Int) - 2)]
    by_cases h2 : (x.length : Int) ≥ 2
    ·
     rw [Xbh h2, rqA, rqA, rqA, rqA, rqA, Yo3, Yo3]
     by_cases h3 : rd x ((x.length : Int) - 1) = 0
     ·
      rw [Xa8 (by simpa using h3)]
      by_cases h4 : rd x ((x.length : Int) - 2) = 0
      ·
       rw [Xa8 (by simpa using h4)]
       have : 2 ≤ tz x := ht.2 ⟨by omega, h3, h4⟩
       congr 1; rw [decide_eq_decide]; omega
      ·
       rw [Xa5 (by simpa using h4), decide_eq_false (fun h => h4 (ht.1 h.2).2.2)]
     ·
      rw [Xa5 (by simpa using h3), decide_eq_false (fun h => h3 (ht.1 h.2).2.1)]
    ·
     rw [Xay h2, decide_eq_false (fun h => by have := (ht.1 h.2).1; omega)]
   unfold Xc4
   simp only
   rw [syA, hc, Xad]
   unfold Xlx
   by_cases hp : Xta a i < 4 ∧ 2 ≤ tz x
   ·
    rw [Xbh hp, if_pos hp, Xa4 (by simp only [List.length_singleton]; omega), Xad, rqA, Xa4 (by simp only [List.length_append, List.length_singleton]; omega), wkA]
    rfl
   ·
    rw [Xay hp, if_neg hp, Xad, rqA, Xa4 (by simp only [List.length_singleton]; omega), wkA]
    rfl
 exact (Xjr (key 0 (by omega) [] (by simp))).trans rfl
theorem Xzv (a : ByteArray) (hs : a.size ≤ 9223372036854775807) : Xjv a = some (Yhc a) := by
 unfold Xjv Yhc
 by_cases h : (a.size : Int) = 0
 ·
  rw [Xa8 (by simpa using h), Xad, Xbi, if_neg (by omega)]
 ·
  rw [Xa5 (by simpa using h)]
  by_cases h1 : (a.size : Int) > 60000
  ·
   rw [Xbh h1, Xad, Xbi, if_neg (by omega)]
  ·
   rw [Xay h1, wkA, rqA, Xad, Xst a (by omega), Xad]
   by_cases h2 : Xta a ((a.size : Int) - 1) = 0
   ·
    rw [Xa8 (by simpa using h2), if_neg (fun hh => hh.2.2 h2)]
   ·
    rw [Xa5 (by simpa using h2), if_pos ⟨by omega, by omega, h2⟩]
theorem Ynl (l : List ByteArray) (i : Nat) (h : i < l.length) : l.getD i Xtb = l[i] := Xde l i h _
theorem Yca (l : List ByteArray) (hs : ∀ u ∈ l, u.size ≤ 9223372036854775807) : Xk1 l = some (Yhd l) := by
 have hm : maxLen = 9223372036854775807 := rfl
 unfold Xk1 Yhd
 by_cases h : (l.length : Int) > 400
 ·
  rw [Xbh h, if_pos (by omega)]
 ·
  rw [Xay h, if_neg (by omega)]
  have key : ∀ i : Nat, i ≤ l.length → ∀ x : List Int, x.length ≤ 60000 → ∃ o, loop (Xep l) ((i : Int), x) = some o ∧ (match o with | .out v => some ((strOfNums v), true) | .ret r => some r) = some (You (l.drop i) x) := by
   refine Xm0 _ ?_ ?_
   ·
    intro x _
    rw [List.drop_eq_nil_of_le (Nat.le_refl _), You]
    exact ⟨_, Xiz (by unfold Xep; rw [Xay (by simp)]), rfl⟩
   ·
    intro i hi ih x hx
    have hz := Ylf l[i]
    have hn := Xb2 (Yhc l[i]).1
    rw [List.drop_eq_getElem_cons hi, You]
    have st : Xep l ((i : Int), x) = if (Yhc l[i]).2 = true then (if x.length + 3 + (Yhc l[i]).1.size > 60000 then some (.done (.ret ((⟨#[]⟩ : ByteArray), false))) else some (.go (((i + 1 : Nat) : Int), (x ++ [0, 0, 1]) ++ Xbq (Yhc l[i]).1))) else some (.done (.ret ((⟨#[]⟩ : ByteArray), false))) := by
     unfold Xep
     simp only [Int.toNat_natCast]
     rw [syA, rqA, Ynl l i hi, Xzv _ (hs _ (List.getElem_mem hi)), Xad]
     cases h1 : (Yhc l[i]).2 with
     | false => rw [if_neg (by simp)]; rfl
     | true =>
      rw [if_pos rfl, Bool.not_true, Xbf, Xa4 (by simp only [List.length_cons, List.length_nil]; omega), Xa4 (by simp only [List.length_append, List.length_cons, List.length_nil]; omega), wkA]
      by_cases h2 : x.length + 3 + (Yhc l[i]).1.size > 60000
      ·
       rw [if_pos h2, Xbh (by simp only [List.length_append, List.length_cons, List.length_nil]; omega)]
      ·
       rw [if_neg h2, Xay (by simp only [List.length_append, List.length_cons, List.length_nil]; omega)]
       rfl
    by_cases h1 : (Yhc l[i]).2 = true
    ·
     rw [if_pos h1] at st ⊢
     by_cases h2 : x.length + 3 + (Yhc l[i]).1.size > 60000
     ·
      rw [if_pos h2] at st ⊢
      exact ⟨_, Xiz st, rfl⟩
     ·
      rw [if_neg h2] at st ⊢
      obtain ⟨o, ho, ho2⟩ := ih ((x ++ [0, 0, 1]) ++ Xbq (Yhc l[i]).1) (by rw [List.length_append, List.length_append, hn, List.length_cons, List.length_cons, List.length_cons, List.length_nil]; omega)
      exact ⟨o, lgo st ho, ho2⟩
    ·
     rw [if_neg h1] at st ⊢
     exact ⟨_, Xiz st, rfl⟩
  obtain ⟨o, ho, ho2⟩ := key 0 (by omega) [] (by simp)
  refine (Xjr ho).trans ?_
  cases o <;> exact ho2
def inB (B : Int) (l : List Int) : Prop := ∀ x ∈ l, -B ≤ x ∧ x ≤ B
theorem Xrh {B C : Int} {l : List Int} (h : inB B l) (hc : B ≤ C) : inB C l := fun x hx => by have := h x hx; omega
theorem Xhj {B : Int} {a b : List Int} (ha : inB B a) (hb : inB B b) : inB B (a ++ b) := fun x hx => (List.mem_append.1 hx).elim (ha x) (hb x)
theorem Xn3 (B : Int) : inB B [] := fun x hx => by simp at hx
theorem Xy7 {B x : Int} (h : -B ≤ x ∧ x ≤ B) : inB B [x] := fun y hy => by rw [List.mem_singleton.1 hy]; exact h
theorem Yhr {B : Int} {l : List Int} (h : inB B l) (i : Nat) {y : Int} (hy : -B ≤ y ∧ y ≤ B) : inB B (l.set i y) := fun x hx => by
 rcases List.mem_or_eq_of_mem_set hx with hx | hx
 ·
  exact h x hx
 ·
  rw [hx]; exact hy
theorem Yhq (n : Nat) {B : Int} (h : 0 ≤ B) : inB B (List.replicate n 0) := fun x hx => by rw [List.eq_of_mem_replicate hx]; omega
theorem Xjs {B : Int} {l : List Int} (h : inB B l) {i : Nat} (hi : i < l.length) : -B ≤ l.getD i 0 ∧ l.getD i 0 ≤ B := h _ (by rw [Xde l i hi]; exact List.getElem_mem _)
theorem Ynt {B : Int} {l : List Int} (h : inB B l) (n : Nat) : inB B (l.take n) := fun x hx => h x (List.mem_of_mem_take hx)
theorem Yns {B : Int} {l : List Int} (h : inB B l) (n : Nat) : inB B (l.drop n) := fun x hx => h x (List.mem_of_mem_drop hx)
theorem Xea {S : Type} {f : Int × S → Option (Lp (Int × S) S)} (n : Nat) (I : Nat → S → Prop) (hs : ∀ (i : Nat) (l : S), i < n → I i l → ∃ l', f ((i : Int), l) = some (.go (((i + 1 : Nat) : Int), l')) ∧ I (i + 1) l') (he : ∀ l, f ((n : Int), l) = some (.done l)) (l0 : S) (h0 : I 0 l0) : ∃ o, loop f (0, l0) = some o ∧ I n o := by
 have key : ∀ i : Nat, i ≤ n → ∀ l, I i l → ∃ o, loop f ((i : Int), l) = some o ∧ I n o := by
  refine Xm0 _ ?_ ?_
  ·
   intro l h; exact ⟨l, Xiz (he l), h⟩
  ·
   intro i hi ih l h
   obtain ⟨l', e, h'⟩ := hs i l hi h
   obtain ⟨o, e2, h2⟩ := ih l' h'
   exact ⟨o, lgo e e2, h2⟩
 exact key 0 (by omega) l0 h0
theorem Xrb {S : Type} {f : S × Int → Option (Lp (S × Int) S)} (n : Nat) (I : Nat → S → Prop) (hs : ∀ (i : Nat) (l : S), i < n → I i l → ∃ l', f (l, (i : Int)) = some (.go (l', ((i + 1 : Nat) : Int))) ∧ I (i + 1) l') (he : ∀ l, f (l, (n : Int)) = some (.done l)) (l0 : S) (h0 : I 0 l0) : ∃ o, loop f (l0, 0) = some o ∧ I n o := by
 have key : ∀ i : Nat, i ≤ n → ∀ l, I i l → ∃ o, loop f (l, (i : Int)) = some o ∧ I n o := by
  refine Xm0 _ ?_ ?_
  ·
   intro l h; exact ⟨l, Xiz (he l), h⟩
  ·
   intro i hi ih l h
   obtain ⟨l', e, h'⟩ := hs i l hi h
   obtain ⟨o, e2, h2⟩ := ih l' h'
   exact ⟨o, lgo e e2, h2⟩
 exact key 0 (by omega) l0 h0
theorem Xy0 (l : List Int) (i j : Nat) (y : Int) (hi : i < l.length) : (l.set i y).getD j 0 = if i = j then y else l.getD j 0 := by
 rw [List.getD_eq_getElem?_getD, List.getElem?_set, List.getD_eq_getElem?_getD]
 by_cases h : i = j
 ·
  subst h; rw [if_pos rfl, if_pos rfl, if_pos hi]; rfl
 ·
  rw [if_neg h, if_neg h]
theorem Xpe {f : Int × List Int → Option (Lp (Int × List Int) (List Int))} (n : Nat) (P Q : Int → Prop) (hs : ∀ (i : Nat) (l : List Int), i < n → l.length = n → P (l.getD i 0) → ∃ y, f ((i : Int), l) = some (.go (((i + 1 : Nat) : Int), l.set i y)) ∧ Q y) (he : ∀ l, f ((n : Int), l) = some (.done l)) (l0 : List Int) (h0 : l0.length = n) (hb : ∀ x ∈ l0, P x) : ∃ o, loop f (0, l0) = some o ∧ o.length = n ∧ ∀ x ∈ o, Q x := by
 obtain ⟨o, e, h1, h2, _⟩ := Xea (f := f) n (fun i l => l.length = n ∧ (∀ j, j < i → Q (l.getD j 0)) ∧ ∀ j, i ≤ j → j < n → P (l.getD j 0)) (by
  intro i l hi ⟨g1, g2, g3⟩
  obtain ⟨y, e, hy⟩ := hs i l hi g1 (g3 i (Nat.le_refl _) hi)
  refine ⟨_, e, by rw [List.length_set]; exact g1, fun j hj => ?_, fun j hj hj2 => ?_⟩
  ·
   rw [Xy0 l i j y (by omega)]
   by_cases h : i = j
   ·
    rw [if_pos h]; exact hy
   ·
    rw [if_neg h]; exact g2 j (by omega)
  ·
   rw [Xy0 l i j y (by omega), if_neg (by omega)]; exact g3 j (by omega) hj2) he l0 ⟨h0, fun j hj => by omega, fun j _ hj => hb _ (by rw [Xde l0 j (by omega)]; exact List.getElem_mem _)⟩
 refine ⟨o, e, h1, fun x hx => ?_⟩
 obtain ⟨j, hj, rfl⟩ := List.getElem_of_mem hx
 have := h2 j (by omega)
 rwa [Xde o j hj] at this
theorem Xf2 (l : List Int) (n B : Int) (hn : (l.length : Int) = n) (hn2 : n ≤ 1000000) (hB : 0 ≤ B ∧ B ≤ 100000000) (h : inB B l) : Xbj l n B = some true := by
 unfold Xbj
 rw [Xa5 (by simp only [bne_eq_false_iff_eq]; exact hn), Xob l.length (f := Xci l n B) (by
  intro i hi
  have := Xjs h hi
  unfold Xci
  rw [syA, rqA, wkA (e := 0 - B), Xaj, Xad, Int.toNat_natCast, decide_eq_true (by omega), Bool.not_true, Xbf, wkA]
  rfl) (by unfold Xci; rw [snA]), Xad]
def Xrr (n i : Int) (v17 : Int × Int) : Option (Lp (Int × Int) (Ou Unit Int)) :=
 sel (decide (v17.2 ≤ (Xaa .i64 ((Xaa .i64 (2 * n)) - 2)))) (
 bnd (it (Xk5 n i v17) 20 (v17.1, 0)) fun o47 => match o47 with
 | .out v43 => (
 some (.go (v43, Xaa .i64 (v17.2 + 1))))
 | .ret r => some (.done (.ret r))) (
 some (.done (.out ())))
theorem Ygw {n i : Int} {v : Int × Int} {x : Lp (Int × Int) (Ou Unit Int)} (h : Xrr n i v = some x) : Xif n i v = some x := by
 unfold Xrr at h
 unfold Xif
 rcases Yju h with ⟨hb, h⟩ | ⟨hb, h⟩
 ·
  rw [hb, Xbi]
  obtain ⟨a, h1, h2⟩ := Xbn h
  rw [Xn5.2 ⟨20, h1⟩, Xad]
  exact h2
 ·
  rw [hb, Xbf]; exact h
theorem Yqq {V O : Type} {f g : V → Option (Lp V O)} (hf : ∀ v y, f v = some y → g v = some y) {o : O} : ∀ (k : Nat) (v : V), it f k v = some o → it g k v = some o
 | 0, v, h => by cases h
 | k + 1, v, h => by
  rw [it] at h ⊢
  cases e : f v with
  | none => rw [e] at h; cases h
  | some s =>
   rw [e] at h
   rw [hf v s e]
   cases s with
   | go y => exact Yqq hf k y h
   | done o' => exact h
def Xh7 (n i : Int) : Int := match it (Xrr n i) 20 (0, 0) with | some (.ret q) => q | _ => -1
theorem Yn6 : ∀ i : Fin 16, (0 ≤ Xh7 4 (i.val : Int) ∧ Xh7 4 (i.val : Int) < 16) := by decide +kernel
theorem Yn7 : ∀ i : Fin 64, (0 ≤ Xh7 8 (i.val : Int) ∧ Xh7 8 (i.val : Int) < 64) := by decide +kernel
theorem Xoa (n : Int) (hn : n = 4 ∨ n = 8) (i : Nat) (hi : (i : Int) < n * n) : 0 ≤ Xh7 n i ∧ Xh7 n i < n * n := by
 rcases hn with rfl | rfl
 ·
  exact Yn6 ⟨i, by omega⟩
 ·
  exact Yn7 ⟨i, by omega⟩
theorem Xpz (n : Int) (hn : n = 4 ∨ n = 8) (i : Nat) (hi : (i : Int) < n * n) : Xi7 n i = some (Xh7 n i) := by
 have hp := Xoa n hn i hi
 unfold Xi7
 have hw : Xaa .i64 (n * n) = n * n := by rcases hn with rfl | rfl <;> exact wkA
 have hc : (sel (n != 4) (sel (n != 8) (some true) (sel (decide ((i : Int) < 0)) (some true) (some (decide ((i : Int) ≥ (Xaa .i64 (n * n))))))) (sel (decide ((i : Int) < 0)) (some true) (some (decide ((i : Int) ≥ (Xaa .i64 (n * n))))))) = some false := by
  rw [hw, Xay (show ¬ (i : Int) < 0 by omega), decide_eq_false (show ¬ (i : Int) ≥ n * n by omega)]
  rcases hn with rfl | rfl <;> rfl
 rw [hc, Xad, Xbf]
 unfold Xh7 at hp ⊢
 cases e : it (Xrr n i) 20 (0, 0) with
 | none => rw [e] at hp; simp only at hp; omega
 | some s =>
  rw [e] at hp
  have h := Yqq (fun v y => Ygw (n := n) (i := i)) 20 _ e
  rw [Xn5.2 ⟨20, h⟩, Xad]
  cases s with
  | out u => simp only at hp; omega
  | ret q => rfl
theorem Xk9 (n : Int) (hn : n = 4 ∨ n = 8) (l : List Int) (B : Int) (hl : (l.length : Int) = n * n) (hb : inB B l) : ∃ o, Xfg n l = some (o, true) ∧ o.length = l.length ∧ inB B o := by
 have hm : maxLen = 9223372036854775807 := rfl
 have hw : Xaa .i64 (n * n) = n * n := by rcases hn with rfl | rfl <;> exact wkA
 have hl2 : l.length ≤ 64 := by rcases hn with rfl | rfl <;> omega
 unfold Xfg
 have hc : (sel (n != 4) (sel (n != 8) (some true) (some ((l.length : Int) != (Xaa .i64 (n * n))))) (some ((l.length : Int) != (Xaa .i64 (n * n))))) = some false := by
  rw [hw, hl, bne_self_eq_false]
  rcases hn with rfl | rfl <;> rfl
 rw [hc, Xad, Xbf]
 obtain ⟨o, e, h1, h2⟩ := Xea (f := Xfh n l) l.length (fun i s => s.length = i ∧ inB B s) (by
  intro i s hi ⟨g1, g2⟩
  have hp := Xoa n hn i (by omega)
  have ha := Xjs hb (i := (Xh7 n i).toNat) (by omega)
  unfold Xfh
  simp only
  rw [hw, syA, Xpz n hn i (by omega), Xad, rqA, Xa4 (by simp only [List.length_singleton]; omega), wkA]
  exact ⟨_, rfl, by simp; omega, Xhj g2 (Xy7 ha)⟩) (by intro s; unfold Xfh; simp only; rw [hw, snA]) [] ⟨rfl, Xn3 B⟩
 exact ⟨o, (Xjr e).trans rfl, h1, h2⟩
theorem Xjd (n : Int) (hn : n = 4 ∨ n = 8) (l : List Int) (B : Int) (hB : 0 ≤ B) (hl : (l.length : Int) = n * n) (hb : inB B l) : ∃ o, Xda n l = some (o, true) ∧ o.length = l.length ∧ inB B o := by
 have hm : maxLen = 9223372036854775807 := rfl
 have hw : Xaa .i64 (n * n) = n * n := by rcases hn with rfl | rfl <;> exact wkA
 have hl2 : l.length ≤ 64 := by rcases hn with rfl | rfl <;> omega
 unfold Xda
 have hc : (sel (n != 4) (sel (n != 8) (some true) (some ((l.length : Int) != (Xaa .i64 (n * n))))) (some ((l.length : Int) != (Xaa .i64 (n * n))))) = some false := by
  rw [hw, hl, bne_self_eq_false]
  rcases hn with rfl | rfl <;> rfl
 rw [hc, Xad, Xbf, rqA, Int.toNat_natCast]
 obtain ⟨o, e, h1, h2⟩ := Xea (f := Xdq n l) l.length (fun i s => s.length = l.length ∧ inB B s) (by
  intro i s hi ⟨g1, g2⟩
  have hp := Xoa n hn i (by omega)
  have ha := Xjs hb hi
  unfold Xdq
  simp only
  rw [hw, syA, Xpz n hn i (by omega), Xad, rqA, rqA, rqA, wkA, Int.toNat_natCast]
  exact ⟨_, rfl, by rw [List.length_set]; exact g1, Yhr g2 _ ha⟩) (by intro s; unfold Xdq; simp only; rw [hw, snA]) (List.replicate l.length 0) ⟨List.length_replicate, Yhq _ hB⟩
 exact ⟨o, (Xjr e).trans rfl, h1, h2⟩
def Xzp (u v : Int) : Int := match it Xjm 10 (1, (IntKind.wrap .i64 (BitVec.ofInt (IntKind.bits .i64) u &&& BitVec.ofInt (IntKind.bits .i64) v).toNat)) with | some q => q | none => 7
theorem Ypy : ∀ u v : Fin 8, (-1 ≤ Xzp (u.val : Int) (v.val : Int) ∧ Xzp (u.val : Int) (v.val : Int) ≤ 1) := by decide +kernel
theorem Xp3 (u v : Nat) (hu : u < 8) (hv : v < 8) : ∃ s, Xja u v = some s ∧ -1 ≤ s ∧ s ≤ 1 := by
 have h := Ypy ⟨u, hu⟩ ⟨v, hv⟩
 simp only at h
 unfold Xja
 rw [Xaj, Xad, decide_eq_true (by omega), Xbi, Xaj, Xad, decide_eq_true (by omega), Bool.not_true, Xad, Xbf]
 unfold Xzp at h
 cases e : it Xjm 10 (1, (IntKind.wrap .i64 (BitVec.ofInt (IntKind.bits .i64) (u : Int) &&& BitVec.ofInt (IntKind.bits .i64) (v : Int)).toNat)) with
 | none => rw [e] at h; simp only at h; omega
 | some q =>
  rw [e] at h
  rw [Xn5.2 ⟨10, e⟩, Xad]
  exact ⟨q, rfl, h⟩
def Xyi (qp : Int) : Int := if qp.tmod 6 = 0 then 10 else if qp.tmod 6 = 1 then 11 else if qp.tmod 6 = 2 then 13 else if qp.tmod 6 = 3 then 14 else if qp.tmod 6 = 4 then 16 else 18
def Ybs (qp : Int) : Int := match it (Xjn qp) 10 (Xyi qp, 0) with | some q => q | none => 0
theorem Yp0 : ∀ q : Fin 41, (10 ≤ Ybs (q.val : Int) ∧ Ybs (q.val : Int) ≤ 1152) := by decide +kernel
theorem Xp5 (qp : Int) (h0 : 0 ≤ qp ∧ qp ≤ 40) : ∃ s, Xjb qp = some s ∧ 10 ≤ s ∧ s ≤ 1152 := by
 have h := Yp0 ⟨qp.toNat, by omega⟩
 simp only at h
 rw [show ((qp.toNat : Nat) : Int) = qp by omega] at h
 unfold Xjb
 rw [Xaj, Xad, decide_eq_true (by omega), Bool.not_true, Xbf, rqA]
 have hb : (sel ((qp.tmod 6) == 0) (some (10 : Int)) (sel ((qp.tmod 6) == 1) (some 11) (sel ((qp.tmod 6) == 2) (some 13) (sel ((qp.tmod 6) == 3) (some 14) (sel ((qp.tmod 6) == 4) (some 16) (some 18)))))) = some (Xyi qp) := by
  unfold Xyi
  simp only [Ye0, beq_iff_eq]
  repeat' split
  all_goals rfl
 rw [hb, Xad]
 unfold Ybs at h
 cases e : it (Xjn qp) 10 (Xyi qp, 0) with
 | none => rw [e] at h; simp only at h; omega
 | some q =>
  rw [e] at h
  rw [Xn5.2 ⟨10, e⟩, Xad]
  exact ⟨q, rfl, h⟩
theorem Xpx (p : Int) (h : 0 ≤ p ∧ p ≤ 15) : ∃ k, Xi6 p = some k ∧ 0 ≤ k ∧ k ≤ 2 := by
 unfold Xi6
 rw [Xaj, Xad, decide_eq_true h, Bool.not_true, Xbf, rqA, rqA, rqA, rqA, Xc9, Xad]
 cases ((Xaa .i64 (p.tdiv 4)).tmod 2 == 0 && (p.tmod 4).tmod 2 == 0) with
 | true => exact ⟨0, rfl, by omega, by omega⟩
 | false =>
  rw [Xbf, Xc9, Xad]
  cases ((Xaa .i64 (p.tdiv 4)).tmod 2 == 1 && (p.tmod 4).tmod 2 == 1) with
  | true => exact ⟨1, rfl, by omega, by omega⟩
  | false => exact ⟨2, rfl, by omega, by omega⟩
theorem Xbe (k a b c : Int) : ∃ x, Xbg k a b c = some x ∧ (x = a ∨ x = b ∨ x = c) := by
 unfold Xbg
 cases (k == 0) with
 | true => exact ⟨a, rfl, Or.inl rfl⟩
 | false =>
  cases (k == 1) with
  | true => exact ⟨b, rfl, Or.inr (Or.inl rfl)⟩
  | false => exact ⟨c, rfl, Or.inr (Or.inr rfl)⟩
theorem Ykn (qp : Int) (h0 : 0 ≤ qp ∧ qp ≤ 40) (x : Int) (hx : 0 ≤ x ∧ x ≤ 29) : ∃ o, loop (Xdo qp) (x, 0) = some o ∧ 0 ≤ o ∧ o ≤ 1856 := by
 obtain ⟨o, e, h1, h2⟩ := Xrb (f := Xdo qp) (qp / 6).toNat (fun i s => 0 ≤ s ∧ s ≤ 29 * 2 ^ i) (by
  intro i s hi ⟨g1, g2⟩
  have h6 : (2 : Int) ^ i ≤ 64 := by
   have : i ≤ 6 := by omega
   obtain rfl | rfl | rfl | rfl | rfl | rfl | rfl : i = 0 ∨ i = 1 ∨ i = 2 ∨ i = 3 ∨ i = 4 ∨ i = 5 ∨ i = 6 := by omega
   all_goals decide
  have h7 : (2 : Int) ^ (i + 1) = 2 * 2 ^ i := by rw [Int.pow_succ, Int.mul_comm]
  unfold Xdo
  simp only
  rw [rqA, Xce (by omega), wkA (e := qp / 6), syA, wkA (e := 2 * s), wkA (e := (i : Int) + 1)]
  exact ⟨_, rfl, by omega, by rw [h7]; omega⟩) (by intro s; unfold Xdo; simp only; rw [rqA, Xce (by omega), wkA (e := qp / 6), snA]) x ⟨hx.1, by simp; omega⟩
 have h6 : (2 : Int) ^ (qp / 6).toNat ≤ 64 := by
  generalize hi : (qp / 6).toNat = i
  obtain rfl | rfl | rfl | rfl | rfl | rfl | rfl : i = 0 ∨ i = 1 ∨ i = 2 ∨ i = 3 ∨ i = 4 ∨ i = 5 ∨ i = 6 := by omega
  all_goals decide
 exact ⟨o, e, h1, by omega⟩
theorem Yab (qp p : Int) (h0 : 0 ≤ qp ∧ qp ≤ 40) (hp : 0 ≤ p ∧ p ≤ 15) : ∃ s, Xjx qp p = some s ∧ 0 ≤ s ∧ s ≤ 1856 := by
 unfold Xjx
 obtain ⟨k, e, k0, k1⟩ := Xpx p hp
 rw [e, Xad, Xaj, Xad, decide_eq_true h0, Xbi, decide_eq_false (by omega), Xad, Xbf, rqA]
 obtain ⟨a1, e1, b1⟩ := Xbe k 10 16 13
 obtain ⟨a2, e2, b2⟩ := Xbe k 11 18 14
 obtain ⟨a3, e3, b3⟩ := Xbe k 13 20 16
 obtain ⟨a4, e4, b4⟩ := Xbe k 14 23 18
 obtain ⟨a5, e5, b5⟩ := Xbe k 16 25 20
 obtain ⟨a6, e6, b6⟩ := Xbe k 18 29 23
 rw [e1, e2, e3, e4, e5, e6]
 simp only [Xad, Xzm]
 obtain ⟨o, eo, o1, o2⟩ := Ykn qp h0 (sel (qp.tmod 6 == 0) a1 (sel (qp.tmod 6 == 1) a2 (sel (qp.tmod 6 == 2) a3 (sel (qp.tmod 6 == 3) a4 (sel (qp.tmod 6 == 4) a5 (sel (qp.tmod 6 == 5) a6 0)))))) (by
  simp only [Ye0]
  repeat' split
  all_goals omega)
 exact ⟨o, (Xjr eo).trans rfl, o1, o2⟩
theorem Yah (qp p : Int) (h0 : 0 ≤ qp ∧ qp ≤ 40) (hp : 0 ≤ p ∧ p ≤ 15) : ∃ s, Xjz qp p = some s ∧ 0 ≤ s ∧ s ≤ 13107 := by
 unfold Xjz
 obtain ⟨k, e, k0, k1⟩ := Xpx p hp
 rw [e, Xad, Xaj, Xad, decide_eq_true h0, Xbi, decide_eq_false (by omega), Xad, Xbf, rqA]
 obtain ⟨a1, e1, b1⟩ := Xbe k 13107 5243 8066
 obtain ⟨a2, e2, b2⟩ := Xbe k 11916 4660 7490
 obtain ⟨a3, e3, b3⟩ := Xbe k 10082 4194 6554
 obtain ⟨a4, e4, b4⟩ := Xbe k 9362 3647 5825
 obtain ⟨a5, e5, b5⟩ := Xbe k 8192 3355 5243
 obtain ⟨a6, e6, b6⟩ := Xbe k 7282 2893 4559
 rw [e1, e2, e3, e4, e5, e6]
 simp only [Xad, Xzm]
 refine ⟨_, rfl, ?_⟩
 simp only [Ye0]
 repeat' split
 all_goals omega
theorem Yji {a s B : Int} (ha : -B ≤ a ∧ a ≤ B) (hs : -1 ≤ s ∧ s ≤ 1) : (-B ≤ a * s ∧ a * s ≤ B) ∧ (-B ≤ s * a ∧ s * a ≤ B) := by
 obtain rfl | rfl | rfl : s = -1 ∨ s = 0 ∨ s = 1 := by omega
 all_goals omega
theorem Yda (p : List Int) (B : Int) (hB : 0 ≤ B ∧ B ≤ 1000000000000) (hl : p.length = 64) (hb : inB B p) (i v : Nat) (hi : i < 8) (hv : v < 8) : ∃ o, Xlg p i v = some o ∧ -(8 * B) ≤ o ∧ o ≤ 8 * B := by
 unfold Xlg
 obtain ⟨o, e, h1, h2⟩ := Xrb (f := Xgv p i v) 8 (fun k s => -(B * k) ≤ s ∧ s ≤ B * k) (by
  intro k s hk ⟨g1, g2⟩
  obtain ⟨q, eq, q0, q1⟩ := Xp3 v k hv hk
  have ha := Xjs hb (i := 8 * i + k) (by omega)
  have hm := (Yji ha ⟨q0, q1⟩).1
  have hk8 : B * k ≤ B * 8 := Int.mul_le_mul_of_nonneg_left (by omega) hB.1
  have hk0 : B * ((k + 1 : Nat) : Int) = B * k + B := by rw [Int.natCast_add, Int.mul_add]; simp
  unfold Xgv
  simp only
  rw [syA, wkA (e := 8 * (i : Int)), wkA (e := 8 * (i : Int) + (k : Int)), rqA, eq, Xad, show (8 * (i : Int) + (k : Int)).toNat = 8 * i + k by omega, wkA (e := p.getD (8 * i + k) 0 * q), wkA (e := s + p.getD (8 * i + k) 0 * q), wkA (e := (k : Int) + 1)]
  exact ⟨_, rfl, by rw [hk0]; omega, by rw [hk0]; omega⟩) (by intro s; unfold Xgv; rw [Xay (by simp)]) 0 (by simp)
 exact ⟨o, (Xjr e).trans rfl, by omega, by omega⟩
theorem Xo2 (p : List Int) (B : Int) (hB : 0 ≤ B ∧ B ≤ 10000000000) (hl : p.length = 64) (hb : inB B p) : ∃ o, Xht p = some o ∧ o.length = 64 ∧ inB (64 * B) o := by
 have hm : maxLen = 9223372036854775807 := rfl
 unfold Xht
 obtain ⟨h, eh, hh1, hh2⟩ := Xea (f := Xel p) 8 (fun i s => s.length = 8 * i ∧ inB (8 * B) s) (by
  intro i s hi ⟨g1, g2⟩
  obtain ⟨t, et, t1, t2⟩ := Xea (f := Xem p ((i : Int), s)) 8 (fun v s => s.length = 8 * i + v ∧ inB (8 * B) s) (by
   intro v s hv ⟨g1, g2⟩
   obtain ⟨r, er, r1, r2⟩ := Yda p B ⟨hB.1, by omega⟩ hl hb i v hi hv
   unfold Xem
   simp only
   rw [syA, er, Xad, Xa4 (by simp only [List.length_singleton]; omega), wkA (e := (v : Int) + 1)]
   exact ⟨_, rfl, by simp; omega, Xhj g2 (Xy7 ⟨by omega, r2⟩)⟩) (by intro s; unfold Xem; rw [Xay (by simp)]) s ⟨by omega, g2⟩
  unfold Xel
  simp only
  rw [syA, et, Xad, wkA (e := (i : Int) + 1)]
  exact ⟨_, rfl, by omega, t2⟩) (by intro s; unfold Xel; rw [Xay (by simp)]) [] ⟨rfl, Xn3 _⟩
 rw [eh, Xad]
 obtain ⟨o, eo, o1, o2⟩ := Xea (f := Xdu h) 8 (fun i s => s.length = 8 * i ∧ inB (64 * B) s) (by
  intro i s hi ⟨g1, g2⟩
  obtain ⟨t, et, t1, t2⟩ := Xea (f := Xdv h ((i : Int), s)) 8 (fun v s => s.length = 8 * i + v ∧ inB (64 * B) s) (by
   intro v r hv ⟨g1, g2⟩
   obtain ⟨a, ea, a1, a2⟩ := Xrb (f := Xdw h ((i : Int), s) ((v : Int), r)) 8 (fun k s => -(8 * B * k) ≤ s ∧ s ≤ 8 * B * k) (by
    intro k c hk ⟨g1, g2⟩
    obtain ⟨q, eq, q0, q1⟩ := Xp3 i k hi hk
    have ha := Xjs hh2 (i := 8 * k + v) (by omega)
    have hm := (Yji ha ⟨q0, q1⟩).2
    have hk8 : 8 * B * k ≤ 8 * B * 8 := Int.mul_le_mul_of_nonneg_left (by omega) (by omega)
    have hk0 : 8 * B * ((k + 1 : Nat) : Int) = 8 * B * k + 8 * B := by rw [Int.natCast_add, Int.mul_add]; simp
    unfold Xdw
    simp only
    rw [syA, eq, Xad, wkA (e := 8 * (k : Int)), wkA (e := 8 * (k : Int) + (v : Int)), rqA, rqA, show (8 * (k : Int) + (v : Int)).toNat = 8 * k + v by omega, wkA (e := q * h.getD (8 * k + v) 0), wkA (e := c + q * h.getD (8 * k + v) 0), wkA (e := (k : Int) + 1)]
    exact ⟨_, rfl, by rw [hk0]; omega, by rw [hk0]; omega⟩) (by intro s; unfold Xdw; rw [Xay (by simp)]) 0 (by simp)
   unfold Xdv
   simp only
   rw [syA, ea, Xad, Xa4 (by simp only [List.length_singleton]; omega), wkA (e := (v : Int) + 1)]
   exact ⟨_, rfl, by simp; omega, Xhj g2 (Xy7 ⟨by omega, by omega⟩)⟩) (by intro s; unfold Xdv; rw [Xay (by simp)]) s ⟨by omega, g2⟩
  unfold Xdu
  simp only
  rw [syA, et, Xad, wkA (e := (i : Int) + 1)]
  exact ⟨_, rfl, by omega, t2⟩) (by intro s; unfold Xdu; rw [Xay (by simp)]) [] ⟨rfl, Xn3 _⟩
 exact ⟨o, (Xjr eo).trans rfl, by omega, o2⟩
theorem Xip (a b : Int) (ha : -1000000000000 ≤ a ∧ a ≤ 1000000000000) (hb : b = 2 ∨ b = 64) : ∃ d, Xd0 a b = some d ∧ b * d ≤ a ∧ a < b * d + b := by
 unfold Xd0
 have h1 : b * (a.tdiv b) + a.tmod b = a := Int.mul_tdiv_add_tmod a b
 have h2 : -b < a.tmod b ∧ a.tmod b < b := by
  have hb0 : 0 < b := by omega
  refine ⟨?_, Int.tmod_lt_of_pos a hb0⟩
  have := Int.lt_tmod_of_pos a hb0
  omega
 rw [rqA, rqA]
 generalize a.tmod b = m at h1 h2
 generalize a.tdiv b = t at h1 h2
 have ht : -1000000000001 ≤ t ∧ t ≤ 1000000000001 := by rcases hb with rfl | rfl <;> omega
 by_cases h : m < 0
 ·
  rw [Xbh h, Xad, wkA (e := t), wkA (e := t - 1)]
  refine ⟨_, rfl, ?_⟩
  rcases hb with rfl | rfl <;> omega
 ·
  rw [Xay h, Xad, wkA (e := t)]
  refine ⟨_, rfl, ?_⟩
  rcases hb with rfl | rfl <;> omega
theorem Ye5 (p : List Int) (hl : p.length = 64) (hb : inB 255 p) : ∃ o, Xmn p = some o ∧ o.length = 64 := by
 unfold Xmn
 obtain ⟨o, e, h1, h2⟩ := Xo2 p 255 (by omega) hl hb
 rw [Xf2 p 64 1000 (by omega) (by omega) (by omega) (Xrh hb (by omega)), Xad, Bool.not_true, Xbf, e, Xad]
 exact ⟨o, rfl, h1⟩
theorem Xtx (p : List Int) (hl : p.length = 64) (hb : inB 5760000 p) : ∃ o, Xgl p = some o ∧ o.length = 64 ∧ inB 10000000 o := by
 unfold Xgl
 obtain ⟨o, e, h1, h2⟩ := Xo2 p 5760000 (by omega) hl hb
 rw [Xf2 p 64 10000000 (by omega) (by omega) (by omega) (Xrh hb (by omega)), Xad, Bool.not_true, Xbf, e, Xad]
 obtain ⟨r, er, r1, r2⟩ := Xpe (f := Xdi) 64 (fun x => -368640000 ≤ x ∧ x ≤ 368640000) (fun x => -10000000 ≤ x ∧ x ≤ 10000000) (by
  intro i l hi hll hx
  obtain ⟨d, ed, d1, d2⟩ := Xip (l.getD i 0 + 32) 64 (by omega) (Or.inr rfl)
  unfold Xdi
  simp only [Int.toNat_natCast]
  rw [syA, rqA, rqA, wkA (e := l.getD i 0 + 32), ed, Xad, rqA, rqA, wkA (e := (i : Int) + 1)]
  exact ⟨d, rfl, by omega, by omega⟩) (by intro s; unfold Xdi; rw [Xay (by simp)]) o h1 (fun x hx => by have := h2 x hx; omega)
 exact ⟨r, (Xjr er).trans rfl, r1, r2⟩
theorem Xir (p : List Int) (B : Int) (hB : 0 ≤ B) (hl : p.length = 16) (hb : inB B p) : ∃ o, Xd1 p = some o ∧ o.length = 16 ∧ inB B o := by
 unfold Xd1
 rw [rqA]
 obtain ⟨o, e, h1, h2⟩ := Xea (f := Xfp p) 16 (fun i s => s.length = 16 ∧ inB B s) (by
  intro i s hi ⟨g1, g2⟩
  have ha := Xjs hb (i := i) (by omega)
  unfold Xfp
  simp only
  rw [syA, rqA, rqA, rqA, Xbo (by omega), Xce (by omega), wkA (e := (i : Int) / 4), wkA (e := (i : Int) % 4 * 4), wkA (e := (i : Int) % 4 * 4 + (i : Int) / 4), rqA, rqA, wkA (e := (i : Int) + 1), Int.toNat_natCast]
  exact ⟨_, rfl, by rw [List.length_set]; exact g1, Yhr g2 _ ha⟩) (by intro s; unfold Xfp; rw [Xay (by simp)]) (List.replicate (16 : Int).toNat 0) ⟨by simp, Yhq _ hB⟩
 exact ⟨o, (Xjr e).trans rfl, h1, h2⟩
theorem Yi3 {B a b c d : Int} (h1 : -B ≤ a ∧ a ≤ B) (h2 : -B ≤ b ∧ b ≤ B) (h3 : -B ≤ c ∧ c ≤ B) (h4 : -B ≤ d ∧ d ≤ B) : inB B [a, b, c, d] := fun x hx => by
 simp only [List.mem_cons, List.not_mem_nil, or_false] at hx
 rcases hx with rfl | rfl | rfl | rfl
 ·
  exact h1
 ·
  exact h2
 ·
  exact h3
 ·
  exact h4
theorem Xo0 (p : List Int) (B : Int) (hB : 0 ≤ B ∧ B ≤ 1000000000) (hl : p.length = 16) (hb : inB B p) : ∃ o, Xhs p = some o ∧ o.length = 16 ∧ inB (6 * B) o := by
 have hm : maxLen = 9223372036854775807 := rfl
 unfold Xhs
 obtain ⟨o, e, h1, h2⟩ := Xea (f := Xfq p) 4 (fun i s => s.length = 4 * i ∧ inB (6 * B) s) (by
  intro i s hi ⟨g1, g2⟩
  have a0 := Xjs hb (i := 4 * i) (by omega)
  have a1 := Xjs hb (i := 4 * i + 1) (by omega)
  have a2 := Xjs hb (i := 4 * i + 2) (by omega)
  have a3 := Xjs hb (i := 4 * i + 3) (by omega)
  unfold Xfq
  simp only
  rw [syA, wkA (e := 4 * (i : Int)), wkA (e := 4 * (i : Int) + 1), wkA (e := 4 * (i : Int) + 2), wkA (e := 4 * (i : Int) + 3), rqA, rqA, rqA, rqA, show (4 * (i : Int)).toNat = 4 * i by omega, show (4 * (i : Int) + 1).toNat = 4 * i + 1 by omega, show (4 * (i : Int) + 2).toNat = 4 * i + 2 by omega, show (4 * (i : Int) + 3).toNat = 4 * i + 3 by omega]
  generalize p.getD (4 * i) 0 = a at *
  generalize p.getD (4 * i + 1) 0 = b at *
  generalize p.getD (4 * i + 2) 0 = c at *
  generalize p.getD (4 * i + 3) 0 = d at *
  rw [wkA (e := (i : Int) + 1)]
  have w1 : Xaa .i64 (Xaa .i64 (Xaa .i64 (a + b) + c) + d) = a + b + c + d := by
   rw [wkA (e := a + b), wkA (e := a + b + c), wkA]
  have w2 : Xaa .i64 (Xaa .i64 (Xaa .i64 (Xaa .i64 (2 * a) + b) - c) - Xaa .i64 (2 * d)) = 2 * a + b - c - 2 * d := by
   rw [wkA (e := 2 * a), wkA (e := 2 * d), wkA (e := 2 * a + b), wkA (e := 2 * a + b - c), wkA]
  have w3 : Xaa .i64 (Xaa .i64 (Xaa .i64 (a - b) - c) + d) = a - b - c + d := by
   rw [wkA (e := a - b), wkA (e := a - b - c), wkA]
  have w4 : Xaa .i64 (Xaa .i64 (Xaa .i64 (a - Xaa .i64 (2 * b)) + Xaa .i64 (2 * c)) - d) = a - 2 * b + 2 * c - d := by
   rw [wkA (e := 2 * b), wkA (e := 2 * c), wkA (e := a - 2 * b), wkA (e := a - 2 * b + 2 * c), wkA]
  rw [w1, w2, w3, w4, Xa4 (by simp only [List.length_cons, List.length_nil]; omega)]
  exact ⟨_, rfl, by simp; omega, Xhj g2 (Yi3 (by omega) (by omega) (by omega) (by omega))⟩) (by intro s; unfold Xfq; rw [Xay (by simp)]) [] ⟨rfl, Xn3 _⟩
 exact ⟨o, (Xjr e).trans rfl, h1, h2⟩
theorem Xnm (p : List Int) (B : Int) (hB : 0 ≤ B ∧ B ≤ 1000000000) (hl : p.length = 16) (hb : inB B p) : ∃ o, Xf9 p = some o ∧ o.length = 16 ∧ inB (4 * B + 2) o := by
 have hm : maxLen = 9223372036854775807 := rfl
 unfold Xf9
 obtain ⟨o, e, h1, h2⟩ := Xea (f := Xek p) 4 (fun i s => s.length = 4 * i ∧ inB (4 * B + 2) s) (by
  intro i s hi ⟨g1, g2⟩
  have a0 := Xjs hb (i := 4 * i) (by omega)
  have a1 := Xjs hb (i := 4 * i + 1) (by omega)
  have a2 := Xjs hb (i := 4 * i + 2) (by omega)
  have a3 := Xjs hb (i := 4 * i + 3) (by omega)
  obtain ⟨f, ef, f1, f2⟩ := Xip (p.getD (4 * i + 1) 0) 2 (by omega) (Or.inl rfl)
  obtain ⟨g, eg, g1', g2'⟩ := Xip (p.getD (4 * i + 3) 0) 2 (by omega) (Or.inl rfl)
  unfold Xek
  simp only
  rw [syA, wkA (e := 4 * (i : Int)), wkA (e := 4 * (i : Int) + 1), wkA (e := 4 * (i : Int) + 2), wkA (e := 4 * (i : Int) + 3), rqA, rqA, rqA, rqA, show (4 * (i : Int)).toNat = 4 * i by omega, show (4 * (i : Int) + 1).toNat = 4 * i + 1 by omega, show (4 * (i : Int) + 2).toNat = 4 * i + 2 by omega, show (4 * (i : Int) + 3).toNat = 4 * i + 3 by omega, ef, Xad, eg, Xad]
  generalize p.getD (4 * i) 0 = a at *
  generalize p.getD (4 * i + 1) 0 = b at *
  generalize p.getD (4 * i + 2) 0 = c at *
  generalize p.getD (4 * i + 3) 0 = d at *
  rw [wkA (e := (i : Int) + 1), wkA (e := a + c), wkA (e := a - c), wkA (e := b + g), wkA (e := f - d), wkA (e := a + c + (b + g)), wkA (e := a - c + (f - d)), wkA (e := a - c - (f - d)), wkA (e := a + c - (b + g)), Xa4 (by simp only [List.length_cons, List.length_nil]; omega)]
  exact ⟨_, rfl, by simp; omega, Xhj g2 (Yi3 (by omega) (by omega) (by omega) (by omega))⟩) (by intro s; unfold Xek; rw [Xay (by simp)]) [] ⟨rfl, Xn3 _⟩
 exact ⟨o, (Xjr e).trans rfl, h1, h2⟩
theorem Yg1 (p : List Int) (hl : p.length = 16) (hb : inB 255 p) : ∃ o, Xof p = some o ∧ o.length = 16 ∧ inB 9180 o := by
 unfold Xof
 obtain ⟨a, ea, a1, a2⟩ := Xo0 p 255 (by omega) hl hb
 obtain ⟨b, eb, b1, b2⟩ := Xir a (6 * 255) (by omega) a1 a2
 obtain ⟨c, ec, c1, c2⟩ := Xo0 b (6 * 255) (by omega) b1 b2
 obtain ⟨d, ed, d1, d2⟩ := Xir c (6 * (6 * 255)) (by omega) c1 c2
 rw [Xf2 p 16 1000 (by omega) (by omega) (by omega) (Xrh hb (by omega)), Xad, Bool.not_true, Xbf, ea, Xad, eb, Xad, ec, Xad, ed, Xad]
 exact ⟨d, rfl, d1, d2⟩
theorem Xv4 (p : List Int) (hl : p.length = 16) (hb : inB 10000000 p) : ∃ o, Xib p = some o ∧ o.length = 16 ∧ inB 10000000 o := by
 unfold Xib
 obtain ⟨a, ea, a1, a2⟩ := Xnm p 10000000 (by omega) hl hb
 obtain ⟨b, eb, b1, b2⟩ := Xir a _ (by omega) a1 a2
 obtain ⟨c, ec, c1, c2⟩ := Xnm b _ (by omega) b1 b2
 obtain ⟨d, ed, d1, d2⟩ := Xir c _ (by omega) c1 c2
 rw [Xf2 p 16 10000000 (by omega) (by omega) (by omega) hb, Xad, Bool.not_true, Xbf, ea, Xad, eb, Xad, ec, Xad, ed, Xad]
 obtain ⟨r, er, r1, r2⟩ := Xpe (f := Xeg) 16 (fun x => -160000010 ≤ x ∧ x ≤ 160000010) (fun x => -10000000 ≤ x ∧ x ≤ 10000000) (by
  intro i l hi hll hx
  obtain ⟨d, ed, d1, d2⟩ := Xip (l.getD i 0 + 32) 64 (by omega) (Or.inr rfl)
  unfold Xeg
  simp only [Int.toNat_natCast]
  rw [syA, rqA, rqA, wkA (e := l.getD i 0 + 32), ed, Xad, rqA, rqA, wkA (e := (i : Int) + 1)]
  exact ⟨d, rfl, by omega, by omega⟩) (by intro s; unfold Xeg; rw [Xay (by simp)]) d d1 (fun x hx => by have := d2 x hx; omega)
 exact ⟨r, (Xjr er).trans rfl, r1, r2⟩
theorem Xkk (x : Int) (h : -1000000000000 ≤ x ∧ x ≤ 1000000000000) : Xd9 x = some (Yhb x) := by
 unfold Xd9 Yhb
 by_cases hx : x < 0
 ·
  rw [Xbh hx, if_pos hx, wkA]; congr 1; omega
 ·
  rw [Xay hx, if_neg hx]
theorem Xmt (w x B : Int) (h : 0 ≤ x ∧ x ≤ B) (hB : B ≤ 1000000000) : ∃ o, Xer w x = some o ∧ -B ≤ o ∧ o ≤ B := by
 unfold Xer
 by_cases hx : w < 0
 ·
  rw [Xbh hx, wkA]; exact ⟨_, rfl, by omega, by omega⟩
 ·
  rw [Xay hx]; exact ⟨_, rfl, by omega, by omega⟩
def Yoa (qp : Int) : Int := Xaa .i64 (1 * 2 ^ min (Xaa .u64 (Xaa .i64 (15 + (Xaa .i64 (qp.tdiv 6))))).toNat (IntKind.bits .i64))
theorem Yob : ∀ q : Fin 41, (0 ≤ Xaa .u64 (Xaa .i64 (15 + (Xaa .i64 ((q.val : Int).tdiv 6)))) ∧ 32768 ≤ Yoa (q.val : Int) ∧ Yoa (q.val : Int) ≤ 2097152) := by decide +kernel
theorem Xsd (w qp p : Int) (hw : -9180 ≤ w ∧ w ≤ 9180) (h0 : 0 ≤ qp ∧ qp ≤ 40) (hp : 0 ≤ p ∧ p ≤ 15) : ∃ o, Xfi w qp p = some o ∧ -5000 ≤ o ∧ o ≤ 5000 := by
 have hs := Yob ⟨qp.toNat, by omega⟩
 simp only at hs
 rw [show ((qp.toNat : Nat) : Int) = qp by omega] at hs
 obtain ⟨s1, s2, s3⟩ := hs
 obtain ⟨s, es, q0, q1⟩ := Yah qp p h0 hp
 unfold Xfi
 have en : Xaa .i64 (1 * 2 ^ min (Xaa .u64 (Xaa .i64 (15 + (Xaa .i64 (qp.tdiv 6))))).toNat (IntKind.bits .i64)) = Yoa qp := rfl
 rw [Xaj, Xad, decide_eq_true (by omega), Xbi, Xaj, Xad, decide_eq_true h0, Xbi, Xaj, Xad, decide_eq_true hp, Bool.not_true, Xad, Xbf, rqA, Xa4 s1, Xkk w (by omega), Xad, es, Xad, rqA, en]
 generalize Yoa qp = n at *
 have ha : 0 ≤ Yhb w ∧ Yhb w ≤ 9180 := by unfold Yhb; split <;> omega
 generalize Yhb w = a at *
 have hm : 0 ≤ a * s ∧ a * s ≤ 9180 * 13107 := ⟨Int.mul_nonneg ha.1 q0, Int.mul_le_mul ha.2 q1 q0 (by omega)⟩
 rw [rqA, wkA (e := a * s), Xce (a := n) (by omega), wkA (e := n / 3), wkA (e := a * s + n / 3), Xce (by omega)]
 have d0 : 0 ≤ (a * s + n / 3) / n := Int.ediv_nonneg (by omega) (by omega)
 have d1 : (a * s + n / 3) / n < 5000 := Int.ediv_lt_of_lt_mul (by omega) (by omega)
 rw [wkA]
 obtain ⟨o, eo, o1, o2⟩ := Xmt w _ 5000 ⟨d0, by omega⟩ (by omega)
 rw [eo, Xad]
 exact ⟨o, rfl, o1, o2⟩
theorem Xr5 (w qp : Int) (h0 : 0 ≤ qp ∧ qp ≤ 40) : ∃ o, Xff w qp = some o ∧ -5000 ≤ o ∧ o ≤ 5000 := by
 unfold Xff
 rw [Xaj, Xad]
 by_cases hw : -20000 ≤ w ∧ w ≤ 20000
 ·
  obtain ⟨s, es, q0, q1⟩ := Xp5 qp h0
  rw [decide_eq_true hw, Xbi, Xaj, Xad, decide_eq_true h0, Bool.not_true, Xad, Xbf, es, Xad, Xkk w (by omega), Xad]
  have ha : 0 ≤ Yhb w ∧ Yhb w ≤ 20000 := by unfold Yhb; split <;> omega
  generalize Yhb w = a at *
  rw [rqA, rqA, Xce (a := s) (by omega), wkA (e := s / 2), wkA (e := a + s / 2), Xce (by omega)]
  have d0 : 0 ≤ (a + s / 2) / s := Int.ediv_nonneg (by omega) (by omega)
  have d1 : (a + s / 2) / s < 5000 := Int.ediv_lt_of_lt_mul (by omega) (by omega)
  rw [wkA]
  obtain ⟨o, eo, o1, o2⟩ := Xmt w _ 5000 ⟨d0, by omega⟩ (by omega)
  rw [eo, Xad]
  exact ⟨o, rfl, o1, o2⟩
 ·
  rw [decide_eq_false hw, Xbf, Xad, Xbi]
  exact ⟨0, rfl, by omega, by omega⟩
theorem Xt9 (l qp p : Int) (hl : -5000 ≤ l ∧ l ≤ 5000) (h0 : 0 ≤ qp ∧ qp ≤ 40) (hp : 0 ≤ p ∧ p ≤ 15) : ∃ o, Xgp l qp p = some o ∧ -10000000 ≤ o ∧ o ≤ 10000000 := by
 unfold Xgp
 obtain ⟨s, es, q0, q1⟩ := Yab qp p h0 hp
 rw [Xaj, Xad, decide_eq_true hl, Bool.not_true, Xbf, es, Xad]
 have m1 : l * s ≤ 5000 * s := Int.mul_le_mul_of_nonneg_right hl.2 q0
 have m2 : -5000 * s ≤ l * s := Int.mul_le_mul_of_nonneg_right hl.1 q0
 rw [wkA]
 exact ⟨_, rfl, by omega, by omega⟩
theorem Xt1 (l qp : Int) (hl : -5000 ≤ l ∧ l ≤ 5000) (h0 : 0 ≤ qp ∧ qp ≤ 40) : ∃ o, Xgn l qp = some o ∧ -5760000 ≤ o ∧ o ≤ 5760000 := by
 unfold Xgn
 obtain ⟨s, es, q0, q1⟩ := Xp5 qp h0
 rw [Xaj, Xad, decide_eq_true hl, Bool.not_true, Xbf, es, Xad]
 have m1 : l * s ≤ 5000 * s := Int.mul_le_mul_of_nonneg_right hl.2 (by omega)
 have m2 : -5000 * s ≤ l * s := Int.mul_le_mul_of_nonneg_right hl.1 (by omega)
 rw [wkA]
 exact ⟨_, rfl, by omega, by omega⟩
theorem Yhz {l : List Int} (h1 : l.length = 64) (h2 : inB 5000 l) : Ygm l = true := by
 unfold Ygm
 rw [Bool.and_eq_true, decide_eq_true_eq, List.all_eq_true]
 exact ⟨h1, fun x hx => by unfold Yh0; rw [decide_eq_true_eq]; exact h2 x hx⟩
theorem Ylx {l : List Int} (h : Ygm l = true) : l.length = 64 ∧ inB 5000 l := by
 obtain ⟨h1, h2⟩ := Xtp h
 refine ⟨h1, fun x hx => ?_⟩
 have := List.all_eq_true.1 h2 x hx
 unfold Yh0 at this
 rwa [decide_eq_true_eq] at this
theorem Yfv {c : Xmb} (h : Xps c = true) : 0 ≤ c.Qp ∧ c.Qp ≤ 40 := by
 unfold Xps at h
 rw [Bool.and_eq_true, decide_eq_true_eq] at h
 exact h.1
theorem Xs1 (p : List Int) (k : Nat) (hk : k < 4) (B : Int) (hl : p.length = 64) (hb : inB B p) : ∃ o, Xfv p k = some o ∧ o.length = 16 ∧ inB B o := by
 have hm : maxLen = 9223372036854775807 := rfl
 unfold Xfv
 obtain ⟨o, e, h1, h2⟩ := Xea (f := Xc6 p k) 16 (fun i s => s.length = i ∧ inB B s) (by
  intro i s hi ⟨g1, g2⟩
  have ha := Xjs hb (i := (8 * ((k : Int) / 2 * 4 + (i : Int) / 4) + (k : Int) % 2 * 4 + (i : Int) % 4).toNat) (by omega)
  unfold Xc6
  simp only
  rw [syA, rqA, rqA, rqA, rqA, Xce (a := (k : Int)) (by omega), Xce (a := (i : Int)) (by omega), Xbo (a := (k : Int)) (by omega), Xbo (a := (i : Int)) (by omega), wkA (e := (k : Int) / 2), wkA (e := (k : Int) / 2 * 4), wkA (e := (i : Int) / 4), wkA (e := (k : Int) / 2 * 4 + (i : Int) / 4), wkA (e := 8 * ((k : Int) / 2 * 4 + (i : Int) / 4)), wkA (e := (k : Int) % 2 * 4), wkA (e := 8 * ((k : Int) / 2 * 4 + (i : Int) / 4) + (k : Int) % 2 * 4), wkA (e := 8 * ((k : Int) / 2 * 4 + (i : Int) / 4) + (k : Int) % 2 * 4 + (i : Int) % 4), rqA, Xa4 (by simp only [List.length_singleton]; omega), wkA (e := (i : Int) + 1)]
  exact ⟨_, rfl, by simp; omega, Xhj g2 (Xy7 ha)⟩) (by intro s; unfold Xc6; rw [Xay (by simp)]) [] ⟨rfl, Xn3 _⟩
 exact ⟨o, (Xjr e).trans rfl, h1, h2⟩
theorem Xnk (p : List Int) (c : Xmb) (hc : Xps c = true) (hl : p.length = 64) (hb : inB 255 p) : ∃ o, Xf6 p c = some (o, true) ∧ Ygm o = true := by
 have hm : maxLen = 9223372036854775807 := rfl
 have hq := Yfv hc
 unfold Xf6
 rw [Xgk, Xad, hc, Xbi, Xf2 p 64 255 (by omega) (by omega) (by omega) hb, Xad, Bool.not_true, Xad, Xbf]
 cases hE : c.Exact with
 | true =>
  obtain ⟨o, e, h1, h2⟩ := Xk9 8 (Or.inr rfl) p 255 (by omega) hb
  rw [Xbi, e, Xad]
  exact ⟨o, rfl, Yhz (by omega) (Xrh h2 (by omega))⟩
 | false =>
  rw [Xbf]
  cases hL : c.Large with
  | true =>
   obtain ⟨w, ew, w1⟩ := Ye5 p hl hb
   obtain ⟨l, el, l1, l2⟩ := Xpe (f := Xeh c) 64 (fun _ => True) (fun x => -5000 ≤ x ∧ x ≤ 5000) (by
    intro i l hi hll _
    obtain ⟨d, ed, d1, d2⟩ := Xr5 (l.getD i 0) c.Qp hq
    unfold Xeh
    simp only [Int.toNat_natCast]
    rw [syA, rqA, rqA, ed, Xad, rqA, rqA, wkA (e := (i : Int) + 1)]
    exact ⟨d, rfl, d1, d2⟩) (by intro s; unfold Xeh; rw [Xay (by simp)]) w w1 (fun _ _ => trivial)
   obtain ⟨o, e, h1, h2⟩ := Xk9 8 (Or.inr rfl) l 5000 (by omega) l2
   rw [Xbi, ew, Xad, el, Xad, e, Xad]
   exact ⟨o, rfl, Yhz (by omega) h2⟩
  | false =>
   obtain ⟨o, eo, o1, o2⟩ := Xea (f := Xdl p c) 4 (fun k s => s.length = 16 * k ∧ inB 5000 s) (by
    intro k s hk ⟨g1, g2⟩
    obtain ⟨a, ea, a1, a2⟩ := Xs1 p k hk 255 hl hb
    obtain ⟨b, eb, b1, b2⟩ := Yg1 a a1 a2
    obtain ⟨l, el, l1, l2⟩ := Xpe (f := Xdm c) 16 (fun x => -9180 ≤ x ∧ x ≤ 9180) (fun x => -5000 ≤ x ∧ x ≤ 5000) (by
     intro i l hi hll hx
     obtain ⟨d, ed, d1, d2⟩ := Xsd (l.getD i 0) c.Qp i hx hq (by omega)
     unfold Xdm
     simp only [Int.toNat_natCast]
     rw [syA, rqA, rqA, ed, Xad, rqA, rqA, wkA (e := (i : Int) + 1)]
     exact ⟨d, rfl, d1, d2⟩) (by intro s; unfold Xdm; rw [Xay (by simp)]) b b1 b2
    obtain ⟨r, er, r1, r2⟩ := Xk9 4 (Or.inl rfl) l 5000 (by omega) l2
    unfold Xdl
    simp only
    rw [syA, ea, Xad, eb, Xad, el, Xad, er, Xad]
    simp only
    rw [rqA, wkA (e := (k : Int) + 1)]
    exact ⟨_, rfl, by rw [List.length_append]; omega, Xhj g2 r2⟩) (by intro s; unfold Xdl; rw [Xay (by simp)]) [] ⟨rfl, Xn3 _⟩
   rw [Xbf, eo, Xad]
   exact ⟨o, rfl, Yhz (by omega) o2⟩
theorem Xlw (p : List Int) (c : Xmb) (hc : Xps c = true) (hp : Ygm p = true) : ∃ o, Xdk p c = some (o, true) ∧ o.length = 64 ∧ inB 10000000 o := by
 have hm : maxLen = 9223372036854775807 := rfl
 have hq := Yfv hc
 obtain ⟨hl, hb⟩ := Ylx hp
 unfold Xdk
 rw [Xgk, Xad, hc, Xbi, Xf2 p 64 5000 (by omega) (by omega) (by omega) hb, Xad, Bool.not_true, Xad, Xbf]
 cases hE : c.Exact with
 | true =>
  obtain ⟨o, e, h1, h2⟩ := Xjd 8 (Or.inr rfl) p 5000 (by omega) (by omega) hb
  rw [Xbi, e, Xad]
  exact ⟨o, rfl, by omega, Xrh h2 (by omega)⟩
 | false =>
  rw [Xbf]
  cases hL : c.Large with
  | true =>
   obtain ⟨w, ew, w1, w2⟩ := Xjd 8 (Or.inr rfl) p 5000 (by omega) (by omega) hb
   obtain ⟨l, el, l1, l2⟩ := Xpe (f := Xc2 c) 64 (fun x => -5000 ≤ x ∧ x ≤ 5000) (fun x => -5760000 ≤ x ∧ x ≤ 5760000) (by
    intro i l hi hll hx
    obtain ⟨d, ed, d1, d2⟩ := Xt1 (l.getD i 0) c.Qp hx hq
    unfold Xc2
    simp only [Int.toNat_natCast]
    rw [syA, rqA, rqA, ed, Xad, rqA, rqA, wkA (e := (i : Int) + 1)]
    exact ⟨d, rfl, d1, d2⟩) (by intro s; unfold Xc2; rw [Xay (by simp)]) w (by omega) w2
   obtain ⟨o, e, h1, h2⟩ := Xtx l l1 l2
   rw [Xbi, ew, Xad, el, Xad, e, Xad]
   exact ⟨o, rfl, h1, h2⟩
  | false =>
   obtain ⟨o, eo, o1, o2⟩ := Xea (f := Xcq p c) 4 (fun k s => s.length = 64 ∧ inB 10000000 s) (by
    intro k s hk ⟨g1, g2⟩
    have hcut : ((p.drop (16 * k)).take 16).length = 16 := by rw [List.length_take, List.length_drop]; omega
    obtain ⟨a, ea, a1, a2⟩ := Xjd 4 (Or.inl rfl) ((p.drop (16 * k)).take 16) 5000 (by omega) (by omega) (Ynt (Yns hb _) _)
    obtain ⟨l, el, l1, l2⟩ := Xpe (f := Xcr c) 16 (fun x => -5000 ≤ x ∧ x ≤ 5000) (fun x => -10000000 ≤ x ∧ x ≤ 10000000) (by
     intro i l hi hll hx
     obtain ⟨d, ed, d1, d2⟩ := Xt9 (l.getD i 0) c.Qp i hx hq (by omega)
     unfold Xcr
     simp only [Int.toNat_natCast]
     rw [syA, rqA, rqA, ed, Xad, rqA, rqA, wkA (e := (i : Int) + 1)]
     exact ⟨d, rfl, d1, d2⟩) (by intro s; unfold Xcr; rw [Xay (by simp)]) a (by omega) a2
    obtain ⟨b, eb, b1, b2⟩ := Xv4 l l1 l2
    obtain ⟨r, er, r1, r2⟩ := Xea (f := Xcs ((k : Int), s) b) 16 (fun i s => s.length = 64 ∧ inB 10000000 s) (by
     intro i s hi ⟨g1, g2⟩
     have ha := Xjs b2 (i := i) (by omega)
     unfold Xcs
     simp only
     rw [syA, rqA, rqA, rqA, rqA, rqA, rqA, Xce (a := (k : Int)) (by omega), Xce (a := (i : Int)) (by omega), Xbo (a := (k : Int)) (by omega), Xbo (a := (i : Int)) (by omega), wkA (e := (k : Int) / 2), wkA (e := (k : Int) / 2 * 4), wkA (e := (i : Int) / 4), wkA (e := (k : Int) / 2 * 4 + (i : Int) / 4), wkA (e := 8 * ((k : Int) / 2 * 4 + (i : Int) / 4)), wkA (e := (k : Int) % 2 * 4), wkA (e := 8 * ((k : Int) / 2 * 4 + (i : Int) / 4) + (k : Int) % 2 * 4), wkA (e := 8 * ((k : Int) / 2 * 4 + (i : Int) / 4) + (k : Int) % 2 * 4 + (i : Int) % 4), rqA, rqA, wkA (e := (i : Int) + 1), Int.toNat_natCast]
     exact ⟨_, rfl, by rw [List.length_set]; exact g1, Yhr g2 _ ha⟩) (by intro s; unfold Xcs; rw [Xay (by simp)]) s ⟨g1, g2⟩
    unfold Xcq
    simp only
    rw [syA, wkA (e := 16 * (k : Int)), wkA (e := 16 * (k : Int) + 16), rqA, show (16 * (k : Int)).toNat = 16 * k by omega, show (16 * (k : Int) + 16).toNat - 16 * k = 16 by omega, ea, Xad, el, Xad, eb, Xad, er, Xad, wkA (e := (k : Int) + 1)]
    exact ⟨_, rfl, r1, r2⟩) (by intro s; unfold Xcq; rw [Xay (by simp)]) (List.replicate (64 : Int).toNat 0) ⟨by simp, Yhq _ (by omega)⟩
   rw [Xbf, rqA, eo, Xad]
   exact ⟨o, rfl, o1, o2⟩
theorem Xg9 (l : List Int) (h : Xeb l = true) : Xd2 l = some true := by
 obtain ⟨h1, h2⟩ := Xhy h
 unfold Xd2
 rw [Xa5 (by simp only [bne_eq_false_iff_eq]; omega), Xob l.length (f := Xft l) (by
  intro i hi
  have := h2 i (by omega)
  unfold Xft
  rw [syA, rqA, Xaj, Xad, Int.toNat_natCast, decide_eq_true this, Bool.not_true, Xbf, wkA]
  rfl) (by unfold Xft; rw [snA]), Xad]
theorem Yfw {l : List Int} (h1 : l.length = 64) (h2 : ∀ x ∈ l, 0 ≤ x ∧ x ≤ 255) : Xeb l = true := by
 unfold Xeb
 rw [Bool.and_eq_true, decide_eq_true_eq, List.all_eq_true]
 exact ⟨h1, fun x hx => by unfold Ylc; rw [decide_eq_true_eq]; exact h2 x hx⟩
theorem Xpv (g b : List Int) (hg : Xeb g = true) (hl : b.length = 64) (hb : inB 10000000 b) : ∃ o, Xi5 g b = some o ∧ Xeb o = true := by
 have hm : maxLen = 9223372036854775807 := rfl
 obtain ⟨g1, g2⟩ := Xhy hg
 unfold Xi5
 rw [Xg9 g hg, Xad, Xbi, Xf2 b 64 10000000 (by omega) (by omega) (by omega) hb, Xad, Bool.not_true, Xad, Xbf]
 obtain ⟨o, e, h1, h2⟩ := Xea (f := Xgm g b) 64 (fun i s => s.length = i ∧ ∀ x ∈ s, 0 ≤ x ∧ x ≤ 255) (by
  intro i s hi ⟨k1, k2⟩
  have ha := Xjs hb (i := i) (by omega)
  have hd := g2 i hi
  have br := Xmd (n := g.getD i 0 + b.getD i 0) (a := 0) (b := 255) (by omega)
  unfold Xgm
  simp only [Int.toNat_natCast]
  rw [syA, rqA, rqA, wkA (e := g.getD i 0 + b.getD i 0), Xcp, Xad, Xa4 (by simp only [List.length_singleton]; omega), wkA (e := (i : Int) + 1)]
  refine ⟨_, rfl, by simp; omega, fun x hx => ?_⟩
  rcases List.mem_append.1 hx with hx | hx
  ·
   exact k2 x hx
  ·
   rw [List.mem_singleton.1 hx]; exact br) (by intro s; unfold Xgm; rw [Xay (by simp)]) [] ⟨rfl, fun x hx => by simp at hx⟩
 exact ⟨o, (Xjr e).trans rfl, Yfw h1 h2⟩
theorem Xlm (a b : List Int) (ha : Xeb a = true) (hb : Xeb b = true) : ∃ o, Xfw a b = some o ∧ o.length = 64 ∧ inB 255 o := by
 have hm : maxLen = 9223372036854775807 := rfl
 obtain ⟨a1, a2⟩ := Xhy ha
 obtain ⟨b1, b2⟩ := Xhy hb
 unfold Xfw
 obtain ⟨o, e, h1, h2⟩ := Xea (f := Xfx a b) 64 (fun i s => s.length = i ∧ inB 255 s) (by
  intro i s hi ⟨k1, k2⟩
  have x := a2 i hi
  have y := b2 i hi
  unfold Xfx
  simp only [Int.toNat_natCast]
  rw [syA, rqA, rqA, wkA (e := a.getD i 0 - b.getD i 0), Xa4 (by simp only [List.length_singleton]; omega), wkA (e := (i : Int) + 1)]
  exact ⟨_, rfl, by simp; omega, Xhj k2 (Xy7 (by omega))⟩) (by intro s; unfold Xfx; rw [Xay (by simp)]) [] ⟨rfl, Xn3 _⟩
 exact ⟨o, (Xjr e).trans rfl, h1, h2⟩
theorem Xo9 (l : List Int) (hl : l.length ≤ 1000000) : ∃ b, Xhw l = some b := by
 unfold Xhw
 have key : ∀ i : Nat, i ≤ l.length → ∃ o, loop (Xdy l) (i : Int) = some o := by
  refine Xm0 _ ?_ ?_
  ·
   exact ⟨_, Xiz (by unfold Xdy; rw [snA])⟩
  ·
   intro i hi ⟨o, ih⟩
   cases h : (l.getD i 0 != 0) with
   | true => exact ⟨_, Xiz (by unfold Xdy; rw [syA, rqA, Int.toNat_natCast, h, Xbi])⟩
   | false => exact ⟨o, lgo (by unfold Xdy; rw [syA, rqA, Int.toNat_natCast, h, Xbf, wkA]; rfl) ih⟩
 obtain ⟨o, e⟩ := key 0 (by omega)
 cases o with
 | out u => exact ⟨true, (Xjr e).trans rfl⟩
 | ret r => exact ⟨r, (Xjr e).trans rfl⟩
def Yfx (e : Xnv) : Prop := (e.Above.length = 0 ∨ e.Above.length = 8) ∧ (e.Left.length = 0 ∨ e.Left.length = 8) ∧ (∀ x ∈ e.Above, 0 ≤ x ∧ x ≤ 255) ∧ (∀ x ∈ e.Left, 0 ≤ x ∧ x ≤ 255) ∧ -1 ≤ e.Corner ∧ e.Corner ≤ 255
theorem Xnn {p : Pic} (ok : Xeu p = true) (x y : Int) : Xes p x y 8 8 = some (Xh1 p x y) := by
 obtain ⟨k1, k2, k3⟩ := Xc8 ok
 unfold Xes Xh1
 rw [Xcd, Xad, ok, Xbi, Xaj, Xad, Xaj, Xad, wkA (e := p.Wide - 8), wkA (e := p.High - 8), Xaj, Xad, Xaj, Xad]
 simp only [Xc9, Xad]
 congr 1
 rw [Bool.eq_iff_iff]
 simp only [Bool.and_eq_true, decide_eq_true_eq]
 omega
theorem Xha {p : Pic} (ok : Xeu p = true) {x y : Int} (hx : x.tmod 8 = 0) (hy : y.tmod 8 = 0) (h : Xh1 p x y = true) : Xd3 p x y = some true := by
 unfold Xd3
 rw [rqA, hx, rqA, hy, Xnn ok, Xad, h]
 rfl
theorem Xod {p : Pic} (ok : Xeu p = true) {x y : Int} (hx : x.tmod 8 = 0) (hy : y.tmod 8 = 0) (h : Xh1 p x y = true) : ∃ e, Xhl p x y = some (e, true) ∧ Yfx e := by
 have hm : maxLen = 9223372036854775807 := rfl
 obtain ⟨k1, k2, k3⟩ := Xc8 ok
 have h' := h
 unfold Xh1 at h'
 rw [decide_eq_true_eq] at h'
 unfold Xhl
 rw [Xha ok hx hy h, Xad, Bool.not_true, Xbf]
 obtain ⟨o, e, o1, o2, o3, o4, o5, o6⟩ := Xea (f := Xfc p x y) 8 (fun i s => (y > 0 → s.1.length = i) ∧ (¬ y > 0 → s.1.length = 0) ∧ (x > 0 → s.2.length = i) ∧ (¬ x > 0 → s.2.length = 0) ∧ (∀ z ∈ s.1, 0 ≤ z ∧ z ≤ 255) ∧ (∀ z ∈ s.2, 0 ≤ z ∧ z ≤ 255)) (by
  intro i s hi ⟨g1, g2, g3, g4, g5, g6⟩
  obtain ⟨a, b⟩ := s
  simp only at g1 g2 g3 g4 g5 g6
  have d1 := Xmz p (x + i) (y - 1)
  have d2 := Xmz p (x - 1) (y + i)
  have st1 : ∃ a', (sel (decide (y > 0)) (bnd (Xdh p (Xaa .i64 (x + (i : Int))) (Xaa .i64 (y - 1))) fun q16 => req ((a.length + ([q16]).length) * 8 ≤ 140737488355328 ∧ a.length + ([q16]).length ≤ maxLen) <| some (a ++ ([q16]))) (some a)) = some a' ∧ (y > 0 → a'.length = i + 1) ∧ (¬ y > 0 → a'.length = 0) ∧ (∀ z ∈ a', 0 ≤ z ∧ z ≤ 255) := by
   by_cases c : y > 0
   ·
    rw [Xbh c, wkA (e := x + (i : Int)), wkA (e := y - 1), Xia ok, Xad, Xa4 (by simp only [List.length_singleton]; have := g1 c; omega)]
    refine ⟨_, rfl, fun _ => by simp; exact g1 c, fun hn => absurd c hn, fun z hz => ?_⟩
    rcases List.mem_append.1 hz with hz | hz
    ·
     exact g5 z hz
    ·
     rw [List.mem_singleton.1 hz]; exact d1
   ·
    rw [Xay c]
    exact ⟨_, rfl, fun hn => absurd hn c, fun _ => g2 c, g5⟩
  obtain ⟨a', ea, a1, a2, a3⟩ := st1
  have st2 : ∃ b', (sel (decide (x > 0)) (bnd (Xdh p (Xaa .i64 (x - 1)) (Xaa .i64 (y + (i : Int)))) fun q17 => req ((b.length + ([q17]).length) * 8 ≤ 140737488355328 ∧ b.length + ([q17]).length ≤ maxLen) <| some (a', (b ++ ([q17])))) (some (a', b))) = some (a', b') ∧ (x > 0 → b'.length = i + 1) ∧ (¬ x > 0 → b'.length = 0) ∧ (∀ z ∈ b', 0 ≤ z ∧ z ≤ 255) := by
   by_cases c : x > 0
   ·
    rw [Xbh c, wkA (e := y + (i : Int)), wkA (e := x - 1), Xia ok, Xad, Xa4 (by simp only [List.length_singleton]; have := g3 c; omega)]
    refine ⟨_, rfl, fun _ => by simp; exact g3 c, fun hn => absurd c hn, fun z hz => ?_⟩
    rcases List.mem_append.1 hz with hz | hz
    ·
     exact g6 z hz
    ·
     rw [List.mem_singleton.1 hz]; exact d2
   ·
    rw [Xay c]
    exact ⟨_, rfl, fun hn => absurd hn c, fun _ => g4 c, g6⟩
  obtain ⟨b', eb, b1, b2, b3⟩ := st2
  unfold Xfc
  simp only
  rw [syA, ea, Xad, eb, Xad, wkA (e := (i : Int) + 1)]
  exact ⟨(a', b'), rfl, a1, a2, b1, b2, a3, b3⟩) (by intro s; unfold Xfc; rw [Xay (by simp)]) ([], []) ⟨fun _ => rfl, fun _ => rfl, fun _ => rfl, fun _ => rfl, fun z hz => by simp at hz, fun z hz => by simp at hz⟩
 rw [e, Xad, Xc9, Xad]
 have d3 := Xmz p (x - 1) (y - 1)
 have ha : o.1.length = 0 ∨ o.1.length = 8 := by
  by_cases c : y > 0
  ·
   exact Or.inr (o1 c)
  ·
   exact Or.inl (o2 c)
 have hb : o.2.length = 0 ∨ o.2.length = 8 := by
  by_cases c : x > 0
  ·
   exact Or.inr (o3 c)
  ·
   exact Or.inl (o4 c)
 cases hc : (decide (x > 0) && decide (y > 0)) with
 | true =>
  rw [Xbi, wkA (e := x - 1), wkA (e := y - 1), Xia ok, Xad, Xad]
  exact ⟨_, rfl, ha, hb, o5, o6, by simp only; omega, by simp only; omega⟩
 | false =>
  rw [Xbf, Xad]
  exact ⟨_, rfl, ha, hb, o5, o6, by simp only; omega, by simp only; omega⟩
theorem Xns (l : List Int) (hl : l.length = 0 ∨ l.length = 8) (h : ∀ x ∈ l, 0 ≤ x ∧ x ≤ 255) : Xhu l = some true := by
 unfold Xhu
 have hc : (sel ((l.length : Int) != 0) (some ((l.length : Int) != 8)) (some false)) = some false := by
  rcases hl with e | e
  ·
   rw [e]; rfl
  ·
   rw [e]; rfl
 rw [hc, Xad, Xbf, Xob l.length (f := Xfu l) (by
  intro i hi
  have := h (l.getD i 0) (by rw [Xde l i hi]; exact List.getElem_mem _)
  unfold Xfu
  rw [syA, rqA, Xaj, Xad, Int.toNat_natCast, decide_eq_true this, Bool.not_true, Xbf, wkA]
  rfl) (by unfold Xfu; rw [snA]), Xad]
theorem Xni {e : Xnv} (h : Yfx e) : Xhm e = some true := by
 obtain ⟨h1, h2, h3, h4, h5, h6⟩ := h
 unfold Xhm
 rw [Xns _ h1 h3, Xad, Xbi, Xns _ h2 h4, Xad, Xbi, Xaj, Xad, decide_eq_true ⟨h5, h6⟩, Xad]
theorem Xmw (l : List Int) (k : Nat) (hk : k < 8) (hl : l.length = 0 ∨ l.length = 8) (h : ∀ x ∈ l, 0 ≤ x ∧ x ≤ 255) : ∃ x, Xet l k = some x ∧ 0 ≤ x ∧ x ≤ 255 := by
 unfold Xet
 rcases hl with e | e
 ·
  rw [Xa8 (by rw [e]; rfl)]; exact ⟨_, rfl, by omega, by omega⟩
 ·
  rw [Xa5 (by rw [e]; rfl), rqA, Int.toNat_natCast]
  exact ⟨_, rfl, h _ (by rw [Xde l k (by omega)]; exact List.getElem_mem _)⟩
theorem Ydc {e : Xnv} (h : Yfx e) : ∃ x, Xlh e = some x ∧ 0 ≤ x ∧ x ≤ 255 := by
 obtain ⟨h1, h2, h3, h4, _, _⟩ := h
 unfold Xlh
 rw [wkA (e := (e.Above.length : Int) + (e.Left.length : Int))]
 by_cases hz : (e.Above.length : Int) + (e.Left.length : Int) = 0
 ·
  rw [Xa8 (by simpa using hz)]; exact ⟨_, rfl, by omega, by omega⟩
 ·
  rw [Xa5 (by simpa using hz), rqA, Xce (by omega), wkA (e := ((e.Above.length : Int) + (e.Left.length : Int)) / 2)]
  obtain ⟨a, ea, a1, a2⟩ := Xrb (f := Xgw e) e.Above.length (fun i s => 0 ≤ s ∧ s ≤ ((e.Above.length : Int) + (e.Left.length : Int)) / 2 + 255 * i) (by
   intro i s hi ⟨g1, g2⟩
   have := h3 (e.Above.getD i 0) (by rw [Xde _ i hi]; exact List.getElem_mem _)
   unfold Xgw
   simp only [Int.toNat_natCast]
   rw [syA, rqA, wkA (e := s + e.Above.getD i 0), wkA (e := (i : Int) + 1)]
   exact ⟨_, rfl, by omega, by omega⟩) (by intro s; unfold Xgw; rw [Xay (by simp)]) (((e.Above.length : Int) + (e.Left.length : Int)) / 2) ⟨by omega, by omega⟩
  obtain ⟨b, eb, b1, b2⟩ := Xrb (f := Xgx e) e.Left.length (fun i s => 0 ≤ s ∧ s ≤ ((e.Above.length : Int) + (e.Left.length : Int)) / 2 + 255 * e.Above.length + 255 * i) (by
   intro i s hi ⟨g1, g2⟩
   have := h4 (e.Left.getD i 0) (by rw [Xde _ i hi]; exact List.getElem_mem _)
   unfold Xgx
   simp only [Int.toNat_natCast]
   rw [syA, rqA, wkA (e := s + e.Left.getD i 0), wkA (e := (i : Int) + 1)]
   exact ⟨_, rfl, by omega, by omega⟩) (by intro s; unfold Xgx; rw [Xay (by simp)]) a ⟨by omega, by omega⟩
  rw [ea, Xad, eb, Xad, Xa4 hz, Xce b1]
  have hn : (e.Above.length : Int) + (e.Left.length : Int) = 8 ∨ (e.Above.length : Int) + (e.Left.length : Int) = 16 := by omega
  have hr : 0 ≤ b / ((e.Above.length : Int) + (e.Left.length : Int)) ∧ b / ((e.Above.length : Int) + (e.Left.length : Int)) ≤ 255 := by
   rcases hn with hn | hn <;> rw [hn] <;> omega
  rw [wkA]
  exact ⟨_, rfl, hr⟩
theorem Xk3 (m : Int) (hm0 : 0 ≤ m ∧ m ≤ 3) {e : Xnv} (h : Yfx e) : ∃ g, Xfd m e = some g ∧ Xeb g = true := by
 have hm : maxLen = 9223372036854775807 := rfl
 have h' := h
 obtain ⟨h1, h2, h3, h4, h5, h6⟩ := h'
 obtain ⟨mid, em, m1, m2⟩ := Ydc h
 unfold Xfd
 rw [Xni h, Xad, Xbi, Xaj, Xad, decide_eq_true hm0, Bool.not_true, Xad, Xbf]
 have hc : ∃ v, sel (decide (e.Corner < 0)) (some (128 : Int)) (some e.Corner) = some v ∧ 0 ≤ v ∧ v ≤ 255 := by
  by_cases c : e.Corner < 0
  ·
   rw [Xbh c]; exact ⟨_, rfl, by omega, by omega⟩
  ·
   rw [Xay c]; exact ⟨_, rfl, by omega, by omega⟩
 obtain ⟨v, ev, v1, v2⟩ := hc
 rw [ev, Xad]
 obtain ⟨o, eo, o1, o2⟩ := Xea (f := Xfe m e v) 64 (fun i s => s.length = i ∧ ∀ x ∈ s, 0 ≤ x ∧ x ≤ 255) (by
  intro i s hi ⟨g1, g2⟩
  obtain ⟨a, ea, a1, a2⟩ := Xmw e.Above (i % 8) (by omega) h1 h3
  obtain ⟨b, eb, b1, b2⟩ := Xmw e.Left (i / 8) (by omega) h2 h4
  have br := Xmd (n := b + a - v) (a := 0) (b := 255) (by omega)
  have put : ∀ z : Int, 0 ≤ z ∧ z ≤ 255 → (s ++ [z]).length = i + 1 ∧ ∀ x ∈ s ++ [z], 0 ≤ x ∧ x ≤ 255 := by
   intro z hz
   refine ⟨by simp; omega, fun x hx => ?_⟩
   rcases List.mem_append.1 hx with hx | hx
   ·
    exact g2 x hx
   ·
    rw [List.mem_singleton.1 hx]; exact hz
  unfold Xfe
  simp only
  rw [syA, rqA, Xbo (by omega), show (i : Int) % 8 = ((i % 8 : Nat) : Int) by omega, ea, Xad, rqA, Xce (by omega), wkA (e := (i : Int) / 8), show (i : Int) / 8 = ((i / 8 : Nat) : Int) by omega, eb, Xad, wkA (e := (i : Int) + 1), em]
  cases (m == 0) with
  | true =>
   rw [Xbi, Xad, Xa4 (by simp only [List.length_singleton]; omega), Xad]
   exact ⟨_, rfl, put _ ⟨m1, m2⟩⟩
  | false =>
   rw [Xbf]
   cases (m == 1) with
   | true =>
    rw [Xbi, Xa4 (by simp only [List.length_singleton]; omega), Xad]
    exact ⟨_, rfl, put _ ⟨a1, a2⟩⟩
   | false =>
    rw [Xbf]
    cases (m == 2) with
    | true =>
     rw [Xbi, Xa4 (by simp only [List.length_singleton]; omega), Xad]
     exact ⟨_, rfl, put _ ⟨b1, b2⟩⟩
    | false =>
     rw [Xbf, wkA (e := b + a), wkA (e := b + a - v), Xcp, Xad, Xa4 (by simp only [List.length_singleton]; omega), Xad]
     exact ⟨_, rfl, put _ br⟩) (by intro s; unfold Xfe; rw [Xay (by simp)]) [] ⟨rfl, fun x hx => by simp at hx⟩
 exact ⟨o, (Xjr eo).trans rfl, Yfw o1 o2⟩
theorem Yi2 {l : List Int} (h : Xeb l = true) : l.length = 64 ∧ inB 1000 l := by
 simp only [Xeb, Bool.and_eq_true, decide_eq_true_eq] at h
 refine ⟨h.1, fun x hx => ?_⟩
 have := List.all_eq_true.1 h.2 x hx
 simp only [Ylc, decide_eq_true_eq] at this
 omega
theorem Xr1 {a b : List Int} (ha : Xeb a = true) (hb : Xeb b = true) : Xkv a b = some (Xvg a b 64) := by
 have la := Yi2 ha
 have lb := Yi2 hb
 unfold Xkv
 rw [Xf2 a 64 1000 (by omega) (by omega) (by omega) la.2, Xad, Xbi, Xf2 b 64 1000 (by omega) (by omega) (by omega) lb.2, Xad, Bool.not_true, Xad, Xbf]
 have key : ∀ i : Nat, i ≤ 64 → loop (Xic a b) (Xvg a b i, (i : Int)) = some (Xvg a b 64) := by
  refine Xm0 _ ?_ ?_
  ·
   exact Xiz (by unfold Xic; rw [Xay (by simp)])
  ·
   intro i hi ih
   refine lgo (y := (Xvg a b (i + 1), ((i + 1 : Nat) : Int))) ?_ ih
   have p := (Xhy ha).2 i hi
   have q := (Xhy hb).2 i hi
   have g := Xu6 ha hb i (by omega)
   have ab : 0 ≤ Yhb (a.getD i 0 - b.getD i 0) ∧ Yhb (a.getD i 0 - b.getD i 0) ≤ 255 := by unfold Yhb; split <;> omega
   unfold Xic
   simp only [Int.toNat_natCast]
   rw [syA, rqA, rqA, wkA (e := a.getD i 0 - b.getD i 0), Xkk _ (by omega), Xad, wkA (e := Xvg a b i + Yhb (a.getD i 0 - b.getD i 0)), wkA (e := (i : Int) + 1)]
   rfl
 exact (Xjr (key 0 (by omega))).trans rfl
theorem Ycv (m : Int) (h : 0 ≤ m ∧ m ≤ 3) : ∃ s, Xla m = some s ∧ 0 ≤ s ∧ s ≤ 39 := by
 have := Xev m.toNat (by omega)
 unfold Xla Xpk
 rw [Xaj, Xad, decide_eq_true (by omega), Bool.not_true, Xbf, show m = ((m.toNat : Nat) : Int) by omega, Xb5 _ (by omega), Xad, Xad]
 refine ⟨_, rfl, ?_⟩
 rw [strOfNums_size]; omega
theorem Xtt {w : List Int} (hw : Xeb w = true) {e : Xnv} (h : Yfx e) : ∃ m c, Xgi w e = some (m, c) ∧ 0 ≤ m ∧ m ≤ 3 := by
 unfold Xgi
 rw [Xni h, Xad, Xbi, Xg9 w hw, Xad, Bool.not_true, Xad, Xbf]
 obtain ⟨o, eo, o1, o2⟩ := Xew (f := Xf3 w e) (fun v => (0 ≤ v.1 ∧ v.1 ≤ 3) ∧ 0 ≤ v.2.2 ∧ v.2.2 ≤ 4) (fun v => (4 - v.2.2).toNat) (fun _ o => 0 ≤ o.1 ∧ o.1 ≤ 3) (by
  intro ⟨m, c, i⟩ ⟨g1, g2, g3⟩
  simp only at g1 g2 g3
  unfold Xf3
  simp only
  by_cases hi : i < 4
  ·
   obtain ⟨g, eg, hg⟩ := Xk3 i ⟨g2, by omega⟩ h
   obtain ⟨s, es, s1, s2⟩ := Ycv i ⟨g2, by omega⟩
   rw [Xbh hi, eg, Xad, Xr1 hw hg, Xad, es, Xad, Xrs, Xad, wkA (e := i + 1)]
   cases (decide (c < 0) || decide (Xaa IntKind.i64 (Xvg w g 64 + s) < c)) with
   | true => exact .inr ⟨_, rfl, ⟨by simp only; omega, by simp only; omega, by simp only; omega⟩, by simp only; omega, fun _ h => h⟩
   | false => exact .inr ⟨_, rfl, ⟨by simp only; omega, by simp only; omega, by simp only; omega⟩, by simp only; omega, fun _ h => h⟩
  ·
   rw [Xay hi]
   exact .inl ⟨_, rfl, g1⟩) (0, -1, 0) ⟨by simp, by simp, by simp⟩
 exact ⟨o.1, o.2, (Xjr eo).trans rfl, o1, o2⟩
theorem Xp1 (d : Int) (h : -500000 ≤ d ∧ d ≤ 500000) : Xi8 d = some (Yrl d) := by
 unfold Xi8 Xpj Yrl
 rw [Xaj, Xad, decide_eq_true h, Bool.not_true, Xbf, Xil d h, Xad, Xad, strOfNums_size]
theorem Xvs {p : Pic} {w : List Int} {x y r : Int} (ok : Xeu p = true) (hw : Xeb w = true) (hr : 0 ≤ r ∧ r ≤ 4) (hx : x.tmod 8 = 0) (hy : y.tmod 8 = 0) (h0 : Xh1 p x y = true) :
  ∃ b, Xh8 p w x y r = some b ∧ (-4 ≤ b.1 ∧ b.1 ≤ 4) ∧ (-4 ≤ b.2.1 ∧ b.2.1 ≤ 4) := by
 obtain ⟨k1, k2, k3⟩ := Xc8 ok
 have h0' := h0
 unfold Xh1 at h0'
 rw [decide_eq_true_eq] at h0'
 unfold Xh8
 rw [Xg9 w hw, Xad, Xbi, Xaj, Xad, decide_eq_true hr, Xbi, Xha ok hx hy h0, Xad, Bool.not_true, Xad, Xbf, wkA (e := 0 - r)]
 obtain ⟨o, h, ho⟩ := Xew (f := Xf4 p w x y r) (fun s => -r ≤ s.2.2.2 ∧ s.2.2.2 ≤ r + 1 ∧ (-4 ≤ s.1 ∧ s.1 ≤ 4) ∧ (-4 ≤ s.2.1 ∧ s.2.1 ≤ 4)) (fun s => (r + 1 - s.2.2.2).toNat) (fun _ b => (-4 ≤ b.1 ∧ b.1 ≤ 4) ∧ (-4 ≤ b.2.1 ∧ b.2.1 ≤ 4)) (by
  intro s ⟨g1, g2, g3⟩
  unfold Xf4
  by_cases hi : s.2.2.2 ≤ r
  ·
   rw [Xbh hi, wkA (e := s.2.2.2 + 1), wkA (e := 0 - r)]
   obtain ⟨o, h, ho⟩ := Xew (f := Xf5 p w x y r s) (fun v => -r ≤ v.2.2.2 ∧ v.2.2.2 ≤ r + 1 ∧ (-4 ≤ v.1 ∧ v.1 ≤ 4) ∧ (-4 ≤ v.2.1 ∧ v.2.1 ≤ 4)) (fun v => (r + 1 - v.2.2.2).toNat) (fun _ b => (-4 ≤ b.1 ∧ b.1 ≤ 4) ∧ (-4 ≤ b.2.1 ∧ b.2.1 ≤ 4)) (by
    intro v ⟨f1, f2, f3⟩
    unfold Xf5
    by_cases hv : v.2.2.2 ≤ r
    ·
     rw [Xbh hv, wkA (e := x + v.2.2.2), wkA (e := y + s.2.2.2), wkA (e := v.2.2.2 + 1), Xnn ok, Xad]
     cases hh : Xh1 p (x + v.2.2.2) (y + s.2.2.2) with
     | false => exact .inr ⟨_, rfl, ⟨by simp only; omega, by simp only; omega, f3⟩, by simp only; omega, fun _ h => h⟩
     | true =>
      have hb := Xmc p (x + v.2.2.2) (y + s.2.2.2)
      rw [Bool.not_true, Xbf, Xe9 ok _ _ (by omega) (by omega), Xad, Xr1 hw hb, Xad, Xp1 _ (by omega), Xad, Xp1 _ (by omega), Xad, Xrs, Xad]
      cases (decide (v.2.2.1 < 0) || decide (Xaa IntKind.i64 (Xaa IntKind.i64 (Xvg w (Ykx p (x + v.2.2.2) (y + s.2.2.2) 64) 64 + Yrl v.2.2.2) + Yrl s.2.2.2) < v.2.2.1)) with
      | true => exact .inr ⟨_, rfl, ⟨by simp only; omega, by simp only; omega, by simp only; omega⟩, by simp only; omega, fun _ h => h⟩
      | false => exact .inr ⟨_, rfl, ⟨by simp only; omega, by simp only; omega, f3⟩, by simp only; omega, fun _ h => h⟩
    ·
     rw [Xay hv]
     exact .inl ⟨_, rfl, f3⟩) (s.1, s.2.1, s.2.2.1, 0 - r) ⟨by simp only; omega, by simp only; omega, g3⟩
   rw [h, Xad]
   exact .inr ⟨_, rfl, ⟨by simp only; omega, by simp only; omega, ho⟩, by simp only; omega, fun _ h => h⟩
  ·
   rw [Xay hi]
   exact .inl ⟨_, rfl, g3⟩) (0, 0, -1, 0 - r) ⟨by simp only; omega, by simp only; omega, by simp, by simp⟩
 rw [h, Xad]
 exact ⟨_, rfl, ho⟩
theorem Yg4 : Xve ⟨0, 0, 0, 0, []⟩ = true := rfl
theorem Yd8 {m : Int} {l : List Int} (hm : 0 ≤ m ∧ m ≤ 3) (hl : Ygm l = true) : Xve ⟨2, m, 0, 0, l⟩ = true := by
 unfold Xve
 simp only
 rw [if_neg (by omega), if_neg (by omega), if_pos trivial, hl, decide_eq_true hm]
 rfl
theorem Ymm {dx dy : Int} {l : List Int} (hx : -16 ≤ dx ∧ dx ≤ 16) (hy : -16 ≤ dy ∧ dy ≤ 16) (hl : Ygm l = true) : Xve ⟨1, 0, dx, dy, l⟩ = true := by
 unfold Xve
 simp only
 rw [if_neg (by omega), if_pos trivial, hl, decide_eq_true hx, decide_eq_true hy]
 rfl
theorem Xux {now ref : Pic} {w : List Int} {x y r : Int} {c : Xmb} (ok : Xeu now = true) (hx : x.tmod 8 = 0) (hy : y.tmod 8 = 0) (h0 : Xh1 now x y = true) (hw : Xeb w = true) (hc : Xps c = true) (hr : 0 ≤ r ∧ r ≤ 4)
  (hk : c.Key = false → Xeu ref = true ∧ ref.Wide = now.Wide ∧ ref.High = now.High) : ∃ q, Xg0 now ref w x y c r = some q ∧ Xve q = true ∧ (c.Key = true → q.Kind = 2) ∧ (-4 ≤ q.Dx ∧ q.Dx ≤ 4) ∧ (-4 ≤ q.Dy ∧ q.Dy ≤ 4) := by
 obtain ⟨k1, k2, k3⟩ := Xc8 ok
 have h0' := h0
 unfold Xh1 at h0'
 rw [decide_eq_true_eq] at h0'
 obtain ⟨e, ee, he⟩ := Xod ok hx hy h0
 obtain ⟨m, cost, em, m1, m2⟩ := Xtt hw he
 obtain ⟨g, eg, hg⟩ := Xk3 m ⟨m1, m2⟩ he
 obtain ⟨l, el, l1, l2⟩ := Xlm w g hw hg
 obtain ⟨v, ev, hv⟩ := Xnk l c hc l1 l2
 unfold Xg0 Ynu
 simp only
 cases hK : c.Key with
 | true =>
  rw [Xbi, Xad, Xbf, ee, Xad, em, Xad, Bool.not_true, Xbf, eg, Xad, el, Xad, ev, Xad]
  exact ⟨_, rfl, Yd8 ⟨m1, m2⟩ hv, fun _ => rfl, by simp, by simp⟩
 | false =>
  obtain ⟨rok, rw', rh'⟩ := hk hK
  have h0r : Xh1 ref x y = true := by unfold Xh1; rw [decide_eq_true_eq, rw', rh']; exact h0'
  obtain ⟨t, et, t1, t2⟩ := Xlm w _ hw (Xmc ref x y)
  obtain ⟨z, ez⟩ := Xo9 t (by omega)
  rw [Xbf, Xe9 rok x y (by omega) (by omega), Xad, et, Xad, ez, Xad, Xad]
  cases z with
  | true => exact ⟨_, rfl, Yg4, (fun h => by cases h), by simp, by simp⟩
  | false =>
   obtain ⟨b, eb, b1, b2⟩ := Xvs (r := r) rok hw hr hx hy h0r
   rw [Xbf, ee, Xad, em, Xad, Bool.not_false, Xbi, eb, Xad]
   by_cases hcost : b.2.2 ≤ cost
   ·
    obtain ⟨t, et, t1, t2⟩ := Xlm w _ hw (Xmc ref (x + b.1) (y + b.2.1))
    obtain ⟨u, eu, hu⟩ := Xnk t c hc t1 t2
    have hul := (Ylx hu).1
    obtain ⟨z, ez⟩ := Xo9 u (by omega)
    rw [Xbh hcost, wkA (e := x + b.1), wkA (e := y + b.2.1), Xe9 rok _ _ (by omega) (by omega), Xad, et, Xad, eu, Xad, ez, Xad, Xc9, Xc9, Xad]
    cases (b.1 == 0 && (b.2.1 == 0 && z)) with
    | true => exact ⟨_, rfl, Yg4, (fun h => by cases h), by simp, by simp⟩
    | false => exact ⟨_, rfl, Ymm (by omega) (by omega) hu, (fun h => by cases h), b1, b2⟩
   ·
    rw [Xay hcost, eg, Xad, el, Xad, ev, Xad]
    exact ⟨_, rfl, Yd8 ⟨m1, m2⟩ hv, (fun h => by cases h), by simp, by simp⟩
theorem Xsl {now ref : Pic} {x y : Int} {c : Xmb} {q : Xbc} (ok : Xeu now = true) (hx : x.tmod 8 = 0) (hy : y.tmod 8 = 0) (h0 : Xh1 now x y = true) (hc : Xps c = true) (hq : Xve q = true) (hd : (-4 ≤ q.Dx ∧ q.Dx ≤ 4) ∧ (-4 ≤ q.Dy ∧ q.Dy ≤ 4))
  (hk : q.Kind ≠ 2 → c.Key = false ∧ Xeu ref = true) : ∃ d, Xfk now ref 0 0 c x y q = some (d, true) ∧ Xeb d = true := by
 obtain ⟨k1, k2, k3⟩ := Xc8 ok
 have h0' := h0
 unfold Xh1 at h0'
 rw [decide_eq_true_eq] at h0'
 unfold Xfk
 rw [Xha ok hx hy h0, Xad, Xbi, Xaj, Xad, decide_eq_true (by omega), Xbi, Xad, Xbi, Xwm, Xad, hq, Xbi, Xgk, Xad, hc, Bool.not_true, Xad, Xbf]
 by_cases h2 : q.Kind = 2
 ·
  obtain ⟨hm, hl⟩ := Yfh hq h2
  obtain ⟨e, ee, he⟩ := Xod ok hx hy h0
  obtain ⟨b, eb, b1, b2⟩ := Xlw q.Levels c hc hl
  obtain ⟨g, eg, hg⟩ := Xk3 q.Mode hm he
  obtain ⟨j, ej, hj⟩ := Xpv g b hg b1 b2
  rw [Xa8 (by simpa using h2), ee, Xad, eb, Xad, eg, Xad, ej, Xad]
  exact ⟨j, rfl, hj⟩
 ·
  obtain ⟨hK, rok⟩ := hk h2
  rw [Xa5 (by simpa using h2), hK, Xbf, Xcd, Xad, rok, Bool.not_true, Xad, Xbf, wkA (e := 0 + x), wkA (e := 0 + x + q.Dx), wkA (e := 0 + y), wkA (e := 0 + y + q.Dy), Xe9 rok _ _ (by omega) (by omega), Xad]
  by_cases h3 : q.Kind = 0
  ·
   rw [Xa8 (by simpa using h3)]
   exact ⟨_, rfl, Xmc _ _ _⟩
  ·
   have h1 : q.Kind = 1 := by have := Ybq hq; omega
   obtain ⟨_, _, hl⟩ := Yfg hq h1
   obtain ⟨b, eb, b1, b2⟩ := Xlw q.Levels c hc hl
   obtain ⟨j, ej, hj⟩ := Xpv _ b (Xmc ref (0 + x + q.Dx) (0 + y + q.Dy)) b1 b2
   rw [Xa5 (by simpa using h3), eb, Xad, ej, Xad]
   exact ⟨j, rfl, hj⟩
def Yge (p q : Pic) : Bool := Xeu p && (Xeu q && ((p.Wide == q.Wide) && (p.High == q.High)))
theorem Xo7 (p q : Pic) : Xfy p q = some (Yge p q) := by
 unfold Xfy Yge
 rw [Xcd, Xad, Xcd, Xad]
 simp only [Xc9, Xad]
theorem Yhv {p q : Pic} (h : Yge p q = true) : Xeu q = true ∧ q.Wide = p.Wide ∧ q.High = p.High := by
 unfold Yge at h
 simp only [Bool.and_eq_true, beq_iff_eq] at h
 exact ⟨h.2.1, h.2.2.1.symm, h.2.2.2.symm⟩
theorem Ynw {p q : Pic} (h1 : Xeu p = true) (h2 : Xeu q = true) (h3 : q.Wide = p.Wide) (h4 : q.High = p.High) : Yge p q = true := by
 unfold Yge
 simp only [Bool.and_eq_true, beq_iff_eq]
 exact ⟨h1, h2, h3.symm, h4.symm⟩
theorem Xuf {now ref : Pic} {w : List Int} {x y r : Int} {c : Xmb} (ok : Xeu now = true) (hx : x.tmod 8 = 0) (hy : y.tmod 8 = 0) (h0 : Xh1 now x y = true) (hw : Xeb w = true) (hc : Xps c = true) (hr : 0 ≤ r ∧ r ≤ 4)
  (hk : c.Key = false → Xeu ref = true ∧ ref.Wide = now.Wide ∧ ref.High = now.High) : ∃ q d, Xgr now ref w x y c r = some (q, d, true) ∧ Xve q = true ∧ Xeb d = true ∧ (c.Key = true → q.Kind = 2) := by
 obtain ⟨q, eq, q1, q2, q3⟩ := Xux ok hx hy h0 hw hc hr hk
 obtain ⟨d, ed, hd⟩ := Xsl (ref := ref) ok hx hy h0 hc q1 q3 (fun h => by
  cases hK : c.Key with
  | true => exact absurd (q2 hK) h
  | false => exact ⟨rfl, (hk hK).1⟩)
 unfold Xgr
 have hl : sel c.Key (some false) (bnd (Xfy now ref) fun q6 => some (!q6)) = some false := by
  cases hK : c.Key with
  | true => rfl
  | false =>
   obtain ⟨a1, a2, a3⟩ := hk hK
   rw [Xbf, Xo7, Xad, Ynw ok a1 a2 a3]; rfl
 rw [Xha ok hx hy h0, Xad, Xbi, Xg9 w hw, Xad, Xbi, Xgk, Xad, hc, Xbi, Xaj, Xad, decide_eq_true hr, Xbi, hl, Xad, Xbf, eq, Xad, ed, Xad]
 exact ⟨q, d, rfl, q1, hd, q2⟩
theorem Ydg {p : Pic} {x y : Int} {d : List Int} (ok : Xeu p = true) (h0 : Xh1 p x y = true) (hd : Xeb d = true) : ∃ p', Xlj p x y d = some p' ∧ Xeu p' = true ∧ p'.Wide = p.Wide ∧ p'.High = p.High := by
 have hm : maxLen = 9223372036854775807 := rfl
 obtain ⟨k1, k2, k3⟩ := Xc8 ok
 have ar := Xkt k1 k2
 unfold Xh1 at h0
 rw [decide_eq_true_eq] at h0
 have hdl := (Xhy hd).1
 have hn := Xb2 p.Dots
 unfold Xlj
 rw [rqA]
 obtain ⟨o, e, o1⟩ := Xea (f := Xgy p x y d) 64 (fun _ s => s.length = p.Dots.size) (by
  intro i s hi g1
  have b1 : 0 ≤ (y + (i : Int) / 8) * p.Wide := Int.mul_nonneg (by omega) (by omega)
  have b2 : (y + (i : Int) / 8) * p.Wide ≤ (p.High - 1) * p.Wide := Int.mul_le_mul_of_nonneg_right (by omega) (by omega)
  have b3 : (p.High - 1) * p.Wide = p.Wide * p.High - p.Wide := by rw [Int.sub_mul, Int.one_mul, Int.mul_comm]
  unfold Xgy
  simp only
  rw [syA, rqA, rqA, rqA, Xce (by omega), Xbo (by omega), wkA (e := (i : Int) / 8), wkA (e := y + (i : Int) / 8), wkA (e := (y + (i : Int) / 8) * p.Wide), wkA (e := (y + (i : Int) / 8) * p.Wide + x), wkA (e := (y + (i : Int) / 8) * p.Wide + x + (i : Int) % 8), rqA, rqA, wkA (e := (i : Int) + 1)]
  exact ⟨_, rfl, by rw [List.length_set]; exact g1⟩) (by intro s; unfold Xgy; rw [Xay (by simp)]) (Xbq p.Dots) hn
 refine ⟨_, (Xjr e).trans rfl, Xyf k1 k2 ?_, rfl, rfl⟩
 simp only
 rw [strOfNums_size]; omega
theorem Yg3 (w h : Int) (hw : 1 ≤ w ∧ w ≤ 256) (hh : 1 ≤ h ∧ h ≤ 256) : ∃ p, Xoi w h = some p ∧ Xeu p = true ∧ p.Wide = w ∧ p.High = h := by
 have ar := Xkt hw hh
 unfold Xoi
 rw [Xaj, Xad, decide_eq_true hw, Xbi, Xaj, Xad, decide_eq_true hh, Bool.not_true, Xad, Xbf, wkA (e := w * h), show w * h = (((w * h).toNat : Nat) : Int) by omega, Xoo _ _ (by omega), Xad]
 refine ⟨_, rfl, Xyf hw hh ?_, rfl, rfl⟩
 simp only
 rw [strOfNums_size, List.length_replicate]; omega
def Ymg (n : Int) : Bool := decide (n.tmod 8 = 0) && decide (8 ≤ n ∧ n ≤ 64)
theorem Xo5 (n : Int) : Xhv n = some (Ymg n) := by
 unfold Xhv Ymg
 rw [rqA, Xaj, Xad, Xc9, Xad, Yk7]
theorem Yap (src ref : Pic) (c : Xmb) (r : Int) : ∃ l p b, Xj0 src ref c r = some (l, p, b) ∧ l.length ≤ 64 ∧ (∀ s ∈ l, Xve s = true) := by
 have hm : maxLen = 9223372036854775807 := rfl
 unfold Xj0
 rw [Xcd, Xad, Xo5, Xad, Xo5, Xad, Xgk, Xad, Xaj, Xad, Xo7, Xad, Yn8]
 simp only [Xki, Xad]
 cases hchk : (!Xeu src || (!Ymg src.Wide || (!Ymg src.High || (!Xps c || (!decide (0 ≤ r ∧ r ≤ 4) || (!c.Key && !Yge src ref)))))) with
 | true => exact ⟨_, _, _, rfl, by simp, fun s hs => by simp at hs⟩
 | false =>
  simp only [Bool.or_eq_false_iff, Bool.not_eq_false', decide_eq_true_eq] at hchk
  obtain ⟨ok, sw, sh, hc, hr, hlike⟩ := hchk
  have hk : c.Key = false → Yge src ref = true := by
   intro hK
   rw [hK] at hlike
   simpa using hlike
  obtain ⟨k1, k2, k3⟩ := Xc8 ok
  unfold Ymg at sw sh
  rw [Bool.and_eq_true, decide_eq_true_eq, decide_eq_true_eq, Xbo (by omega)] at sw sh
  obtain ⟨g, eg, g1, g2, g3⟩ := Yg3 src.Wide src.High k1 k2
  rw [Xbf, eg, Xad]
  obtain ⟨o, e, o1, o2⟩ := Xew (f := Xg6 src ref c r)
   (fun v => 0 ≤ v.1 ∧ v.1 ≤ src.High ∧ v.1 % 8 = 0 ∧ (v.2.1.length : Int) ≤ v.1 ∧ (∀ s ∈ v.2.1, Xve s = true) ∧ Xeu ⟨v.2.2.1, v.2.2.2.1, v.2.2.2.2⟩ = true ∧ v.2.2.1 = src.Wide ∧ v.2.2.2.1 = src.High) (fun v => (src.High - v.1).toNat) (fun _ o => (o.1.length : Int) ≤ 64 ∧ ∀ s ∈ o.1, Xve s = true) (by
   intro ⟨y, sq, w, h, dt⟩ ⟨f1, f2, f3, f4, f5, f6, f7, f8⟩
   simp only at f1 f2 f3 f4 f5 f6 f7 f8
   unfold Xg6
   simp only
   by_cases hy : y < src.High
   ·
    rw [Xbh hy]
    obtain ⟨o, e, o1, o2, o3, o4, o5⟩ := Xew (f := Xg7 src ref c r (y, sq, w, h, dt))
     (fun v => 0 ≤ v.1 ∧ v.1 ≤ src.Wide ∧ v.1 % 8 = 0 ∧ 8 * ((v.2.1.length : Int) - sq.length) ≤ v.1 ∧ (∀ s ∈ v.2.1, Xve s = true) ∧ Xeu ⟨v.2.2.1, v.2.2.2.1, v.2.2.2.2⟩ = true ∧ v.2.2.1 = src.Wide ∧ v.2.2.2.1 = src.High) (fun v => (src.Wide - v.1).toNat)
     (fun _ o => (o.1.length : Int) ≤ y + 8 ∧ (∀ s ∈ o.1, Xve s = true) ∧ Xeu ⟨o.2.1, o.2.2.1, o.2.2.2⟩ = true ∧ o.2.1 = src.Wide ∧ o.2.2.1 = src.High) (by
     intro ⟨x, sq2, w2, h2, dt2⟩ ⟨e1, e2, e3, e4, e5, e6, e7, e8⟩
     simp only at e1 e2 e3 e4 e5 e6 e7 e8
     unfold Xg7
     simp only
     by_cases hx : x < src.Wide
     ·
      have held : Xh1 (⟨w2, h2, dt2⟩ : Pic) x y = true := by unfold Xh1; rw [decide_eq_true_eq]; simp only; omega
      obtain ⟨q, d, eq, q1, q2, _⟩ := Xuf (now := (⟨w2, h2, dt2⟩ : Pic)) (ref := ref) (w := Ykx src x y 64) (r := r) (c := c) e6 (by rw [Xbo e1]; exact e3) (by rw [Xbo f1]; exact f3) held (Xmc _ _ _) hc hr (fun hK => by
       obtain ⟨a1, a2, a3⟩ := Yhv (hk hK)
       exact ⟨a1, by simp only; omega, by simp only; omega⟩)
      obtain ⟨p', ep, p1, p2, p3⟩ := Ydg e6 held q2
      rw [Xbh hx, Xe9 ok x y (by omega) (by omega), Xad, eq, Xad]
      simp only
      rw [Xa4 (by simp only [List.length_singleton]; omega), ep, Xad, wkA (e := x + 8)]
      refine .inr ⟨_, rfl, ⟨by simp only; omega, by simp only; omega, by simp only; omega, by simp only [List.length_append, List.length_singleton]; omega, ?_, p1, ?_, ?_⟩, by simp only; omega, fun _ h => h⟩
      ·
       intro s hs
       rcases List.mem_append.1 hs with hs | hs
       ·
        exact e5 s hs
       ·
        rw [List.mem_singleton.1 hs]; exact q1
      ·
       simp only at p2 ⊢; rw [p2]; exact e7
      ·
       simp only at p3 ⊢; rw [p3]; exact e8
     ·
      rw [Xay hx]
      exact .inl ⟨_, rfl, by simp only; omega, e5, e6, e7, e8⟩) (0, sq, w, h, dt) ⟨by simp, by simp only; omega, by simp, by simp, f5, f6, f7, f8⟩
    rw [e, Xad, wkA (e := y + 8)]
    exact .inr ⟨_, rfl, ⟨by simp only; omega, by simp only; omega, by simp only; omega, o1, o2, o3, o4, o5⟩, by simp only; omega, fun _ h => h⟩
   ·
    rw [Xay hy]
    exact .inl ⟨_, rfl, by simp only; omega, f5⟩) (0, [], g.Wide, g.High, g.Dots) ⟨by simp, by simp only; omega, by simp, by simp, fun s hs => by simp at hs, g1, g2, g3⟩
  rw [e, Xad]
  exact ⟨_, _, _, rfl, by omega, o2⟩
theorem Yif (l : List Xbc) (c : Xmb) (h : ∀ s ∈ l, Xve s = true) : (Xqb l c).length ≤ 5265 * l.length := by
 induction l with
 | nil => simp [Xqb]
 | cons s r ih =>
  have h1 := Yml (c := c) (h s (List.mem_cons_self))
  have h2 := ih (fun x hx => h x (List.mem_cons_of_mem _ hx))
  rw [Xqb, List.length_append, List.length_cons]; omega
theorem Ydi (l : List Xbc) (c : Xmb) (hs : ∀ s ∈ l, Xve s = true) (hl : l.length ≤ 64) : Xlk l c = some (strOfNums (Xqb l c)) := by
 have hm : maxLen = 9223372036854775807 := rfl
 have kr : ∀ (r a : List Xbc) (t : List Int), l = a ++ r → t.length ≤ 5265 * a.length → loop (Xgz l c) ((a.length : Int), t) = some (t ++ Xqb r c) := by
  intro r
  induction r with
  | nil =>
   intro a t ha _
   rw [List.append_nil] at ha
   exact Xiz (by unfold Xgz; simp only; rw [Xay (by rw [ha]; omega), Xqb, List.append_nil])
  | cons s r ih =>
   intro a t ha ht
   have hlen : a.length < l.length := by rw [ha]; simp
   have hx : l.getD a.length Xqd = s := by rw [ha]; exact Xhz a s _ r
   have hok : Xve s = true := hs s (by rw [ha]; simp)
   have g := Yml (c := c) hok
   have hn := ih (a ++ [s]) (t ++ sqL s c) (by rw [ha]; simp) (by simp only [List.length_append, List.length_singleton]; omega)
   rw [List.length_append, List.length_singleton] at hn
   rw [Xqb, ← List.append_assoc, ← hn]
   refine Xe5 ?_
   unfold Xgz
   simp only [Int.toNat_natCast, hx]
   rw [syA, rqA, show (⟨s.Kind, s.Mode, s.Dx, s.Dy, s.Levels⟩ : Xbc) = s from rfl, Yde s c hok, Xad, Yjj _ (Xyp (Ymk _ _)), rqA, wkA]
   rfl
 unfold Xlk
 exact Xjr (kr l [] [] rfl (by simp))
theorem Xwc (r : Rate) (n : Int) : ∃ r', Xie r n = some r' := by
 unfold Xie
 simp only [Xl4, Xcp, Xad, Xzm]
 exact ⟨_, rfl⟩
theorem Yfb (r : Rate) (k : Bool) : ∃ q, Xmq r k = some q := by
 unfold Xmq
 simp only [Xl4, Xcp, Xad, Xzm]
 exact ⟨_, rfl⟩
theorem Ycf (s : Xcw) (b : Bool) (hb : (Lit.int .i64 s.Seq.Bits).wf = true) : ∃ k, Xk4 s b = some k := by
 unfold Xk4
 simp only [Xg5 s hb, Xad, Xzm]
 exact ⟨_, rfl⟩
theorem Yio {b : Int} (h : 3 ≤ b ∧ b ≤ 8) : Xaa .u64 b = b := by
 rcases (show b = 3 ∨ b = 4 ∨ b = 5 ∨ b = 6 ∨ b = 7 ∨ b = 8 by omega) with rfl | rfl | rfl | rfl | rfl | rfl <;> decide
theorem Xz1 (s : Seq) (p : Par) (f q : Int) (hs : Xkz s = true) (hf : 0 ≤ f ∧ f ≤ 1000000) : ∃ l b, Xjw s p ⟨0, f, q⟩ = some (strOfNums l, b) ∧ Xqc l ∧ l.length ≤ 200 := by
 obtain ⟨_, _, b3, b8⟩ := Xhd hs
 have hb := Yio ⟨b3, b8⟩
 unfold Xjw Xm9
 simp only [Xr9, Xom, Xaj, hb, Xad]
 rw [rqA]
 simp only [Xc9, Xad]
 cases hc : (Xrm p && (decide ((0 : Int) ≥ 0) && (decide (0 < Xpa s) && (decide (f ≥ 0) && (decide (f < Xaa IntKind.i64 (1 * 2 ^ min s.Bits.toNat (IntKind.bits IntKind.i64))) && decide (0 ≤ q ∧ q ≤ 40)))))) with
 | false => exact ⟨[], false, rfl, Xlo, by simp⟩
 | true =>
  simp only [Bool.and_eq_true, decide_eq_true_eq] at hc
  have pq := Yjl hc.1
  have q0 := hc.2.2.2.2.2
  have u := Xev 0 (by omega)
  have z := Xql (q - p.Qp) (by omega)
  rw [Bool.not_true, Xbf, show (0 : Int) = ((0 : Nat) : Int) from rfl, Xb5 0 (by omega), Xad, show s.Bits = ((s.Bits.toNat : Nat) : Int) by omega, Xma f _ hf.1 (by omega) (by omega), Xad, wkA (e := q - p.Qp)]
  have fl := Xjh s.Bits.toNat f
  rw [Xa4 (by simp only [strOfNums_size]; omega), Xil _ (by omega), Xad, Xa6, Xa4 (by simp only [strOfNums_size, List.length_append]; omega), Xa6]
  exact ⟨_, true, rfl, Xa0 (Xa0 (Xkl _) (Xx9 _ _)) (Xkl _), by simp only [List.length_append]; omega⟩
theorem Yb2 (s : Xcw) : (Xmm s).length ≤ 2 ∧ ∀ u ∈ Xmm s, u.size ≤ 1000000 := by
 unfold Xmm
 split
 ·
  rename_i h
  obtain ⟨h1, h2⟩ := Xl2 h
  have a := Yjv h1
  have b := Yjk s.Par
  refine ⟨by simp, fun u hu => ?_⟩
  simp only [List.mem_cons, List.not_mem_nil, or_false] at hu
  rcases hu with rfl | rfl
  ·
   rw [strOfNums_size, List.length_cons, Xye]; omega
  ·
   rw [strOfNums_size, List.length_cons, Xye]; omega
 ·
  exact ⟨by simp, fun u hu => by simp at hu⟩
theorem Xos (s : Seq) (h1 : s.Cols.length ≤ 1000) (h2 : s.Rows.length ≤ 1000) : Xhp s = some s := by
 have hm : maxLen = 9223372036854775807 := rfl
 unfold Xhp
 rw [Xa4 (by simp only [List.length_nil]; omega), Xa4 (by simp only [List.length_nil]; omega)]
 rfl
theorem Xsj (s : Xcw) (p : Pic) (want : Bool) (h1 : s.Seq.Cols.length ≤ 1000) (h2 : s.Seq.Rows.length ≤ 1000) (hb : (Lit.int .i64 s.Seq.Bits).wf = true) :
  ∃ s' us ok, Xfj s p want = some (s', us, ok) ∧ s'.Seq = s.Seq ∧ us.length ≤ 3 ∧ ∀ u ∈ us, u.size ≤ 1000000 := by
 have hm : maxLen = 9223372036854775807 := rfl
 obtain ⟨k, ek⟩ := Ycf s want hb
 unfold Xfj
 rw [Xl6, Xad, ek, Xad, Xg5 s hb, Xad, Xcd, Xad]
 have hv : ∃ b, (sel (Xg2 s) (sel (Xeu p) (sel (p.Wide != (Xqm s.Seq).1) (some true) (sel (p.High != (Xqm s.Seq).2) (some true) (sel k (some false) (some (decide (s.Since ≥ 1000)))))) (some true)) (some true)) = some b ∧ (b = false → Xg2 s = true) := by
  cases hs : Xg2 s with
  | false => exact ⟨true, rfl, fun h => by cases h⟩
  | true =>
   rw [Xbi]
   simp only [Xzm]
   exact ⟨_, rfl, fun _ => trivial⟩
 obtain ⟨b, eb, hbf⟩ := hv
 rw [eb, Xad]
 cases b with
 | true =>
  rw [Xbi, Xos _ h1 h2, Xad]
  exact ⟨_, _, _, rfl, rfl, by simp, (fun u hu => by simp at hu)⟩
 | false =>
  have ok := hbf rfl
  obtain ⟨so, _⟩ := Xl2 ok
  obtain ⟨_, _, b3, b8⟩ := Xhd so
  have bp := Yin ⟨b3, b8⟩
  have hfr : 0 ≤ s.Frame ∧ s.Frame ≤ 1000000 := by
   unfold Xg2 at ok
   simp only [Bool.and_eq_true, decide_eq_true_eq] at ok
   have := ok.1.1.2
   omega
  obtain ⟨q, eq⟩ := Yfb s.Rate k
  obtain ⟨l, p', tb, et, t1, t2⟩ := Yap p s.Ref ⟨k, q, s.Par.Large, s.Par.Exact⟩ s.Reach
  obtain ⟨hl, hbb, eh, e1, e2⟩ := Xz1 s.Seq s.Par s.Frame q so hfr
  have tl := Yif l ⟨k, q, s.Par.Large, s.Par.Exact⟩ t2
  rw [Xbf, eq, Xad, et, Xad, eh, Xad]
  simp only
  rw [Ydi l _ t2 t1, Xad, Xa4 (by simp only [strOfNums_size]; omega), Xa6]
  have hk : ∃ kd us, (sel k (bnd (Xdp s) fun q12 => some ((5 : Int), q12)) (some (1, ([] : List ByteArray)))) = some (kd, us) ∧ Ydx kd = true ∧ us.length ≤ 2 ∧ ∀ u ∈ us, u.size ≤ 1000000 := by
   cases k with
   | true =>
    have := Yb2 s
    rw [Xbi, Xsh s hb, Xad]
    exact ⟨5, _, rfl, rfl, this.1, this.2⟩
   | false => exact ⟨1, [], rfl, rfl, by simp, fun u hu => by simp at hu⟩
  obtain ⟨kd, us, ekd, kd1, us1, us2⟩ := hk
  rw [ekd, Xad]
  simp only
  rw [Xl8 kd _ kd1 (Xa0 e1 (Yea _ _)) (by rw [List.length_append]; omega), Xad, Xa4 (by simp only [List.length_singleton]; omega), Xos _ h1 h2, Xad]
  obtain ⟨r', er⟩ := Xwc s.Rate ((strOfNums (hl ++ Xqb l ⟨k, q, s.Par.Large, s.Par.Exact⟩)).size : Int)
  rw [er, Xad, Yio ⟨b3, b8⟩, rqA, bp.1, Int.one_mul, wkA (e := 2 ^ s.Seq.Bits.toNat), rqA, Xzm, Xad]
  refine ⟨_, _, _, rfl, rfl, by simp; omega, fun u hu => ?_⟩
  rcases List.mem_append.1 hu with hu | hu
  ·
   exact us2 u hu
  ·
   rw [List.mem_singleton.1 hu]
   simp only
   rw [strOfNums_size, List.length_cons, Xye, List.length_append]; omega
theorem Xq8 (c : Xau) (hc : Xdb c) : ∃ p c', Xej c = some (p, c') ∧ Xrm p = true ∧ Xdb c' := by
 unfold Xej
 obtain ⟨x, c1, e1, x0, x1, _, h1⟩ := Xaq c 41 hc
 obtain ⟨b, c2, e2, h2⟩ := Xds c1 4 h1
 obtain ⟨y, c3, e3, y0, y1, _, h3⟩ := Xaq c2 3 h2
 have x1' := x1 (by omega)
 rw [e1, Xad]
 simp only
 rw [e2, Xad]
 simp only
 rw [e3, Xad]
 simp only
 have po : ∀ (l e f : Bool), (l && e) = false → Xrm ⟨x, l, e, f⟩ = true := by
  intro l e f h
  unfold Xrm
  rw [Bool.and_eq_true, decide_eq_true_eq]
  exact ⟨by simp only; omega, by simp only [h]; rfl⟩
 cases (y == 0) with
 | true => exact ⟨_, _, rfl, po _ _ _ rfl, h3⟩
 | false =>
  cases (y == 1) with
  | true => exact ⟨_, _, rfl, po _ _ _ rfl, h3⟩
  | false => exact ⟨_, _, rfl, po _ _ _ rfl, h3⟩
theorem Ylz : ∀ c r b : Int, (c = 1 ∨ c = 2) → (r = 1 ∨ r = 2) → (b = 3 ∨ b = 4 ∨ b = 5) → Xpa ⟨Xm4 [c] [r], b, [c], [r]⟩ = 1 ∧ Xqm ⟨Xm4 [c] [r], b, [c], [r]⟩ = (8 * c, 8 * r) := by
 intro c r b hc hr hb
 rcases hc with rfl | rfl <;> rcases hr with rfl | rfl <;> rcases hb with rfl | rfl | rfl <;> decide +kernel
theorem Yeq (c r b : Int) (p : Par) (t : Rate) (e n : Int) (hc : c = 1 ∨ c = 2) (hr : r = 1 ∨ r = 2) (hb : b = 3 ∨ b = 4 ∨ b = 5) (hp : Xrm p = true) (ht : Xro t = true) (he : 1 ≤ e ∧ e ≤ 5) (hn : 0 ≤ n ∧ n ≤ 2) : Xg2 (Xku c r b p t e n) = true := by
 have hm := (Ylz c r b hc hr hb).1
 have hpow : (0 : Int) < 2 ^ b.toNat := by rcases hb with rfl | rfl | rfl <;> decide
 unfold Xg2 Xku
 simp only
 rw [decide_eq_true hm, hp, ht, decide_eq_true ⟨by omega, hpow⟩, decide_eq_true (by omega)]
 rfl
theorem Xub (c r b : Int) (p : Par) (t : Rate) (e n : Int) (hc : c = 1 ∨ c = 2) (hr : r = 1 ∨ r = 2) (hb : b = 3 ∨ b = 4 ∨ b = 5) (hp : Xrm p = true) (ht : Xro t = true) (he : 1 ≤ e ∧ e ≤ 5) (hn : 0 ≤ n ∧ n ≤ 2) : Xgq c r b p t e n = some (Xku c r b p t e n, true) := by
 have hs := Yeq c r b p t e n hc hr hb hp ht he hn
 have hw : (Lit.int .i64 b).wf = true := by rcases hb with rfl | rfl | rfl <;> decide
 unfold Xgq
 rw [Xwa, Xad]
 have := Xg5 (Xku c r b p t e n) hw
 unfold Xku at this hs ⊢
 rw [this, hs, Xad]
 rfl
theorem Xx4 (c : Xau) (hc : Xdb c) : ∃ s us c', Xga c = some (s, us, c') ∧ us.length ≤ 12 ∧ (∀ u ∈ us, u.size ≤ 1000000) ∧ Xdb c' := by
 have hm : maxLen = 9223372036854775807 := rfl
 unfold Xga
 obtain ⟨x1, c1, e1, a1, b1, _, h1⟩ := Xaq c 2 hc
 obtain ⟨x2, c2, e2, a2, b2, _, h2⟩ := Xaq c1 2 h1
 obtain ⟨x3, c3, e3, a3, b3, _, h3⟩ := Xaq c2 3 h2
 obtain ⟨p, c4, e4, hp, h4⟩ := Xq8 c3 h3
 obtain ⟨t, c5, e5, ht, h5⟩ := Xx2 c4 h4
 obtain ⟨x6, c6, e6, a6, b6, _, h6⟩ := Xaq c5 5 h5
 obtain ⟨x7, c7, e7, a7, b7, _, h7⟩ := Xaq c6 3 h6
 have b1' := b1 (by omega)
 have b2' := b2 (by omega)
 have b3' := b3 (by omega)
 have b6' := b6 (by omega)
 have b7' := b7 (by omega)
 rw [e1, Xad]
 simp only
 rw [e2, Xad]
 simp only
 rw [e3, Xad]
 simp only
 rw [e4, Xad]
 simp only
 rw [e5, Xad]
 simp only
 rw [e6, Xad]
 simp only
 rw [e7, Xad]
 simp only
 rw [wkA (e := 1 + x1), wkA (e := 1 + x2), wkA (e := 3 + x3), wkA (e := 1 + x6), Xub (1 + x1) (1 + x2) (3 + x3) p t (1 + x6) x7 (by omega) (by omega) (by omega) hp ht (by omega) (by omega), Xad]
 have hsz := (Ylz (1 + x1) (1 + x2) (3 + x3) (by omega) (by omega) (by omega)).2
 have hwf : (Lit.int .i64 (3 + x3)).wf = true := by
  obtain rfl | rfl | rfl : x3 = 0 ∨ x3 = 1 ∨ x3 = 2 := by omega
  all_goals decide
 unfold Xku
 simp only
 rw [Xl6, Xad, hsz]
 simp only
 obtain ⟨pic, c8, e8, pw, ph, pok, h8⟩ := Xxq c7 (8 * (1 + x1)) (8 * (1 + x2)) h7 (by omega) (by omega)
 rw [e8, Xad]
 simp only
 obtain ⟨o, eo, ho⟩ := Xew (f := Xhb)
  (fun (i, b, j, h, lev, bits, pq, pl, pe, pc, rq, rt, rd, fr, si, ev, re, ha, rw, rh, rdots, us, w, hh, dd, co, ro) => (0 ≤ i ∧ i ≤ 4) ∧ Xdb ⟨b, j, h⟩ ∧ co.length ≤ 1000 ∧ ro.length ≤ 1000 ∧ (Lit.int .i64 bits).wf = true ∧ (us.length : Int) ≤ 3 * i ∧ (∀ u ∈ us, u.size ≤ 1000000) ∧ Xeu ⟨w, hh, dd⟩ = true)
  (fun v => (4 - v.1).toNat)
  (fun _ (lev, bits, pq, pl, pe, pc, rq, rt, rd, fr, si, ev, re, ha, rw, rh, rdots, us, b, j, h, co, ro) => us.length ≤ 12 ∧ (∀ u ∈ us, u.size ≤ 1000000) ∧ Xdb ⟨b, j, h⟩) (by
  intro ⟨i, b, j, h, lev, bits, pq, pl, pe, pc, rq, rt, rd, fr, si, ev, re, ha, rw', rh, rdots, us, w, hh, dd, co, ro⟩ ⟨g1, g2, g3, g4, g5, g6, g7, g8⟩
  unfold Xhb
  simp only
  obtain ⟨x, k1, f1, y0, y1, _, q1⟩ := Xaq _ 4 g2
  have y1' := y1 (by omega)
  rw [f1, Xad]
  simp only
  by_cases hi : i < x
  ·
   obtain ⟨z, k2, f2, q2⟩ := Xds k1 5 q1
   obtain ⟨s', us', ok, f3, s1, s2, s3⟩ := Xsj (⟨(⟨lev, bits, co, ro⟩ : Seq), (⟨pq, pl, pe, pc⟩ : Par), (⟨rq, rt, rd⟩ : Rate), fr, si, ev, re, ha, (⟨rw', rh, rdots⟩ : Pic)⟩ : Xcw) (⟨w, hh, dd⟩ : Pic) z g3 g4 g5
   obtain ⟨p2, k3, f4, p3, p4, p5, q3⟩ := Ybl k2 (⟨w, hh, dd⟩ : Pic) q2 g8
   rw [Xbh hi, f2, Xad]
   simp only
   rw [f3, Xad]
   simp only
   rw [rqA, f4, Xad, wkA (e := i + 1)]
   simp only at s1
   refine .inr ⟨_, rfl, ⟨by omega, q3, ?_, ?_, ?_, ?_, ?_, p5⟩, by simp only; omega, fun _ h => h⟩
   ·
    simp only [s1]; exact g3
   ·
    simp only [s1]; exact g4
   ·
    simp only [s1]; exact g5
   ·
    rw [List.length_append]; omega
   ·
    intro u hu
    rcases List.mem_append.1 hu with hu | hu
    ·
     exact g7 u hu
    ·
     exact s3 u hu
  ·
   rw [Xay hi]
   exact .inl ⟨_, rfl, by simp only; omega, g7, q1⟩) (0, c8.b_, c8.i_, c8.h_, Xm4 [1 + x1] [1 + x2], 3 + x3, p.Qp, p.Large, p.Exact, p.Confined, t.Qp, t.Target, t.Debt, 0, 0, 1 + x6, x7, false, 0, 0, ⟨#[]⟩, [], pic.Wide, pic.High, pic.Dots, [1 + x1], [1 + x2]) ⟨⟨Int.le_refl _, by omega⟩, h8, by simp, by simp, hwf, by simp, (fun u hu => by simp at hu), pok⟩
 obtain ⟨lev, bits, pq, pl, pe, pc, rq, rt, rd, fr, si, ev, re, ha, rw', rh, rdots, us, b, j, h, co, ro⟩ := o
 rw [eo, Xad]
 exact ⟨_, _, _, rfl, ho.1, ho.2.1, ho.2.2⟩
theorem Yaz (c : Xau) (hc : Xdb c) : ∃ s c', Xj1 c = some (s, c') ∧ s.size ≤ 1000 ∧ Xdb c' := by
 have hm : maxLen = 9223372036854775807 := rfl
 unfold Xj1
 obtain ⟨o, e, o1, o2⟩ := Xew (f := Xim) (fun v => 0 ≤ v.1 ∧ v.1 ≤ 14 ∧ Xdb ⟨v.2.1, v.2.2.1, v.2.2.2.1⟩ ∧ (v.2.2.2.2.length : Int) = v.1) (fun v => (14 - v.1).toNat) (fun _ o => Xdb ⟨o.1, o.2.1, o.2.2.1⟩ ∧ o.2.2.2.length ≤ 14) (by
  intro ⟨i, b, j, h, l⟩ ⟨g1, g2, g3, g4⟩
  unfold Xim
  simp only at g1 g2 g3 g4 ⊢
  obtain ⟨x, c1, e1, x0, x1, _, h1⟩ := Xaq _ 14 g3
  have x1' := x1 (by omega)
  rw [e1, Xad]
  simp only
  by_cases hi : i < x
  ·
   obtain ⟨y, c2, e2, _, h2⟩ := Xii c1 [0, 0, 0, 0, 1, 2, 3, 3, 4, 200] h1 (by decide) (by decide)
   rw [Xbh hi, e2, Xad, Xa4 (by simp only [List.length_singleton]; omega), wkA (e := i + 1)]
   exact .inr ⟨_, rfl, ⟨by simp only; omega, by simp only; omega, h2, by simp; omega⟩, by simp only; omega, fun _ h => h⟩
  ·
   rw [Xay hi]
   exact .inl ⟨_, rfl, h1, by simp only; omega⟩) (0, c.b_, c.i_, c.h_, []) ⟨by simp, by simp, hc, by simp⟩
 rw [e, Xad]
 obtain ⟨b, c1, e1, h1⟩ := Xds _ 8 o1
 rw [e1, Xad]
 simp only
 cases b with
 | true =>
  rw [Bool.not_true, Xbf, Xad]
  exact ⟨_, _, rfl, by simp only; rw [strOfNums_size]; omega, h1⟩
 | false =>
  obtain ⟨y, c2, e2, _, _, _, h2⟩ := Xaq c1 5 h1
  rw [Bool.not_false, Xbi, e2, Xad, Xa4 (by simp only [List.length_singleton]; omega), Xad]
  exact ⟨_, _, rfl, by simp only; rw [strOfNums_size, List.length_append, List.length_singleton]; omega, h2⟩
theorem Xw2 (c : Xau) (hc : Xdb c) : ∃ us c', Xin c = some (us, c') ∧ us.length ≤ 12 ∧ (∀ u ∈ us, u.size ≤ 1000000) ∧ Xdb c' := by
 have hm : maxLen = 9223372036854775807 := rfl
 unfold Xin
 obtain ⟨o, e, o1, o2, o3⟩ := Xew (f := Xg8) (fun v => 0 ≤ v.1 ∧ v.1 ≤ 5 ∧ Xdb ⟨v.2.1, v.2.2.1, v.2.2.2.1⟩ ∧ (v.2.2.2.2.length : Int) = v.1 ∧ ∀ u ∈ v.2.2.2.2, u.size ≤ 1000000) (fun v => (5 - v.1).toNat) (fun _ o => o.1.length ≤ 12 ∧ (∀ u ∈ o.1, u.size ≤ 1000000) ∧ Xdb ⟨o.2.1, o.2.2.1, o.2.2.2⟩) (by
  intro ⟨i, b, j, h, l⟩ ⟨g1, g2, g3, g4, g5⟩
  unfold Xg8
  simp only at g1 g2 g3 g4 g5 ⊢
  obtain ⟨x, c1, e1, x0, x1, _, h1⟩ := Xaq _ 5 g3
  have x1' := x1 (by omega)
  rw [e1, Xad]
  simp only
  by_cases hi : i < x
  ·
   obtain ⟨s, c2, e2, s1, h2⟩ := Yaz c1 h1
   rw [Xbh hi, e2, Xad, Xa4 (by simp only [List.length_singleton]; omega), wkA (e := i + 1)]
   refine .inr ⟨_, rfl, ⟨by simp only; omega, by simp only; omega, h2, by simp; omega, fun u hu => ?_⟩, by simp only; omega, fun _ h => h⟩
   rcases List.mem_append.1 hu with hu | hu
   ·
    exact g5 u hu
   ·
    rw [List.mem_singleton.1 hu]; simp only; omega
  ·
   rw [Xay hi]
   exact .inl ⟨_, rfl, by simp only; omega, g5, h1⟩) (0, c.b_, c.i_, c.h_, []) ⟨by simp, by simp, hc, by simp, (fun u hu => by simp at hu)⟩
 rw [e, Xad]
 exact ⟨_, _, rfl, o1, o2, o3⟩
def Xjj (s : ByteArray) (a : Int) (N m k : Nat) : Xal := ⟨Xa3 a k, decide (k = 0), decide (k + 1 = m), s.extract (k * N) (min ((k + 1) * N) s.size)⟩
def pkL (s : ByteArray) (a : Int) (N m : Nat) : List Xal := (List.range m).map (Xjj s a N m)
theorem Yh4 (s : ByteArray) (a : Int) (N m : Nat) : (pkL s a N m).length = m := by simp [pkL]
theorem Yqv (s : ByteArray) (a : Int) (N m k : Nat) (hk : k < m) : (pkL s a N m).getD k Xaw = Xjj s a N m k := by
 rw [Xde _ k (by rw [Yh4]; exact hk)]
 simp [pkL]
theorem Yeu (z N k : Nat) (hN : 1 ≤ N) (hk : k < (z + N - 1) / N) : k * N < z ∧ (k + 1 = (z + N - 1) / N ↔ z ≤ k * N + N) := by
 have h1 : (k + 1) * N ≤ z + N - 1 := (Nat.le_div_iff_mul_le (by omega)).1 hk
 have h2 : (k + 1) * N = k * N + N := Nat.succ_mul k N
 refine ⟨by omega, fun h => ?_, fun h => ?_⟩
 ·
  have h3 : ¬ k + 2 ≤ (z + N - 1) / N := by omega
  rw [Nat.le_div_iff_mul_le (by omega)] at h3
  have h4 : (k + 2) * N = k * N + N + N := by rw [Nat.add_mul]; omega
  omega
 ·
  have h3 : ¬ k + 2 ≤ (z + N - 1) / N := by
   rw [Nat.le_div_iff_mul_le (by omega)]
   have h4 : (k + 2) * N = k * N + N + N := by rw [Nat.add_mul]; omega
   omega
  omega
theorem Yqw (z N : Nat) (hN : 1 ≤ N) : z ≤ (z + N - 1) / N * N := by
 have h3 : ¬ (z + N - 1) / N + 1 ≤ (z + N - 1) / N := by omega
 rw [Nat.le_div_iff_mul_le (by omega), Nat.succ_mul] at h3
 omega
theorem Ypq {f : Int × List Xal → Option (Lp (Int × List Xal) (List Xal))} (s : ByteArray) (a : Int) (N m : Nat) (hs : ∀ (k : Nat) (l : List Xal), k < m → l.length = k → f (((k * N : Nat) : Int), l) = some (.go ((((k + 1) * N : Nat) : Int), l ++ [Xjj s a N m k]))) (he : ∀ l, f (((m * N : Nat) : Int), l) = some (.done l)) : loop f (0, []) = some (pkL s a N m) := by
 have key : ∀ k : Nat, k ≤ m → loop f (((k * N : Nat) : Int), (List.range k).map (Xjj s a N m)) = some (pkL s a N m) := by
  refine Xm0 _ (Xiz (he _)) ?_
  intro k hk ih
  refine lgo (hs k _ hk (by simp)) ?_
  rw [List.range_succ, List.map_append] at ih
  exact ih
 have := key 0 (by omega)
 rw [Nat.zero_mul] at this
 exact this
noncomputable def pkV (l : List ByteArray) (a n : Int) : List Xal × Bool := if (0 ≤ a ∧ a ≤ 65535) ∧ (1 ≤ n ∧ n ≤ 400) ∧ (Yhd l).2 = true ∧ (Yhd l).1.size ≠ 0 ∧ ((Yhd l).1.size + n.toNat - 1) / n.toNat ≤ 60 then (pkL (Yhd l).1 a n.toNat (((Yhd l).1.size + n.toNat - 1) / n.toNat), true) else ([], false)
theorem Yl7 (s : ByteArray) (a : Int) (N k : Nat) (hN : 1 ≤ N) (hk : k < (s.size + N - 1) / N) (q : Int) (hq : q = ((min (k * N + N) s.size : Nat) : Int)) : (⟨Xa3 a k, (((k * N : Nat) : Int) == 0), (q == (s.size : Int)), s.extract ((k * N : Nat) : Int).toNat q.toNat⟩ : Xal) = Xjj s a N ((s.size + N - 1) / N) k := by
 obtain ⟨f1, f2⟩ := Yeu s.size N k hN hk
 have e1 : (((k * N : Nat) : Int) == 0) = decide (k = 0) := by
  rw [Bool.eq_iff_iff, beq_iff_eq, decide_eq_true_eq]
  constructor
  ·
   intro h
   rcases Nat.eq_zero_or_pos k with h0 | h0
   ·
    exact h0
   ·
    have := Nat.mul_pos h0 (show 0 < N by omega); omega
  ·
   intro h; rw [h]; simp
 have e2 : (q == (s.size : Int)) = decide (k + 1 = (s.size + N - 1) / N) := by
  rw [Bool.eq_iff_iff, beq_iff_eq, decide_eq_true_eq, f2, hq]
  omega
 unfold Xjj
 rw [e1, e2, hq, Int.toNat_natCast, Int.toNat_natCast, Nat.succ_mul]
theorem Yni (z : Nat) (n : Int) (hn : 1 ≤ n ∧ n ≤ 400) (hz : z ≤ 60000) : Xaa .i64 ((Xaa .i64 ((Xaa .i64 ((z : Int) + n)) - 1)).tdiv n) = (((z + n.toNat - 1) / n.toNat : Nat) : Int) := by
 obtain ⟨N, rfl⟩ : ∃ N : Nat, n = N := ⟨n.toNat, by omega⟩
 have h2 : (z + N - 1) / N ≤ z + N - 1 := Nat.div_le_self _ _
 have h3 : (0 : Int) ≤ ((z + N - 1 : Nat) : Int) / (N : Int) := Int.ediv_nonneg (by omega) (by omega)
 rw [wkA (e := (z : Int) + N), wkA (e := (z : Int) + N - 1), Xce (by omega), Int.toNat_natCast, show (z : Int) + N - 1 = ((z + N - 1 : Nat) : Int) by omega, ← Int.natCast_ediv, wkA]
theorem Xt5 (l : List ByteArray) (a n : Int) (hl : ∀ u ∈ l, u.size ≤ 9223372036854775807) : Xgo l a n = some (pkV l a n) := by
 have hm : maxLen = 9223372036854775807 := rfl
 have hz := Ylj l
 unfold Xgo pkV
 rw [Xaj, Xad, Xaj, Xad, Xki, Xad]
 by_cases ha : 0 ≤ a ∧ a ≤ 65535
 ·
  by_cases hn : 1 ≤ n ∧ n ≤ 400
  ·
   rw [decide_eq_true ha, decide_eq_true hn, Xa5 (by rfl), Yca l hl, Xad]
   generalize Yhd l = q at *
   obtain ⟨s, ok⟩ := q
   simp only at hz ⊢
   have cnt := Yni s.size n hn hz
   cases ok with
   | false => rw [if_neg (by simp)]; rfl
   | true =>
    rw [Xbi]
    by_cases h0 : s.size = 0
    ·
     rw [Xa8 (by simp only [beq_iff_eq]; omega), Xad, Xbi, if_neg (fun h => h.2.2.2.1 h0)]
    ·
     rw [Xa5 (by rw [beq_eq_false_iff_ne]; omega), rqA, Xad, cnt]
     by_cases h6 : (s.size + n.toNat - 1) / n.toNat ≤ 60
     ·
      rw [snA, if_pos ⟨ha, hn, rfl, h0, h6⟩]
      obtain ⟨N, rfl⟩ : ∃ N : Nat, n = N := ⟨n.toNat, by omega⟩
      rw [Int.toNat_natCast] at h6 ⊢
      have hN : 1 ≤ N := by omega
      refine (Xjr (Ypq (f := Xdn a N (s, true)) s a N ((s.size + N - 1) / N) ?_ ?_)).trans rfl
      ·
       intro k list hk hlen
       have hp := Yl7 s a N k hN hk
       obtain ⟨f1, _⟩ := Yeu s.size N k hN hk
       have hsucc : (k + 1) * N = k * N + N := Nat.succ_mul k N
       rw [hsucc]
       generalize hT : k * N = T at *
       unfold Xdn
       simp only
       have hq : Xdd ((T : Int) + (N : Int)) 0 (s.size : Int) = ((min (T + N) s.size : Nat) : Int) := by unfold Xdd; split <;> (try split) <;> omega
       rw [syA, wkA (e := (T : Int) + (N : Int)), Xcp, Xad, Yaf, Xad, Xa4 (by rw [hq]; omega), hlen, Xa4 (by simp only [List.length_singleton]; omega), hp _ hq]
       rfl
      ·
       intro list
       have := Yqw s.size N hN
       unfold Xdn
       rw [Xay (by simp only; omega)]
     ·
      rw [syA, if_neg (fun h => h6 h.2.2.2.2)]
  ·
   rw [decide_eq_false hn, Xa8 (by simp), if_neg (fun h => hn h.2.1)]
 ·
  rw [decide_eq_false ha, Xa8 (by simp), if_neg (fun h => ha h.1)]
theorem Ypp (s : ByteArray) (a : Int) (N k : Nat) (hN : 1 ≤ N ∧ N ≤ 400) (hk : k < (s.size + N - 1) / N) (ha : 0 ≤ a ∧ a ≤ 65535) (m : Nat) : Xb3 (Xjj s a N m k) = true := by
 obtain ⟨f1, _⟩ := Yeu s.size N k hN.1 hk
 rw [Xe7]
 unfold Xjj
 simp only
 have hsz : (s.extract (k * N) (min ((k + 1) * N) s.size)).size = min ((k + 1) * N) s.size - k * N := by rw [ByteArray.size_extract]; omega
 rw [hsz, Nat.succ_mul]
 have : 0 ≤ Xa3 a k ∧ Xa3 a k ≤ 65535 := by unfold Xa3; split <;> omega
 omega
theorem Yl6 (l : List ByteArray) (a n : Int) : pkV l a n = ([], false) ∨ ∃ s, Yhd l = (s, true) ∧ s.size ≠ 0 ∧ (0 ≤ a ∧ a ≤ 65535) ∧ (1 ≤ n.toNat ∧ n.toNat ≤ 400) ∧ n = (n.toNat : Int) ∧ (s.size + n.toNat - 1) / n.toNat ≤ 60 ∧ pkV l a n = (pkL s a n.toNat ((s.size + n.toNat - 1) / n.toNat), true) := by
 unfold pkV
 by_cases h : (0 ≤ a ∧ a ≤ 65535) ∧ (1 ≤ n ∧ n ≤ 400) ∧ (Yhd l).2 = true ∧ (Yhd l).1.size ≠ 0 ∧ ((Yhd l).1.size + n.toNat - 1) / n.toNat ≤ 60
 ·
  rw [if_pos h]
  exact Or.inr ⟨(Yhd l).1, Prod.ext rfl h.2.2.1, h.2.2.2.1, h.1, by omega, by omega, h.2.2.2.2, rfl⟩
 ·
  rw [if_neg h]; exact Or.inl rfl
theorem Ybn (c : Xau) (hc : Xdb c) : ∃ us a n c', Xj5 c = some ((pkV us a n).1, c') ∧ Xdb c' := by
 unfold Xj5
 obtain ⟨us1, c1, e1, _, g1, h1⟩ := Xw2 c hc
 obtain ⟨b, c2, e2, h2⟩ := Xds c1 2 h1
 rw [e1, Xad]
 simp only
 rw [e2, Xad]
 simp only
 have hv : ∃ (us : List ByteArray) (c3 : Xau), (sel b (bnd (Xga c2) fun q4 => some (q4.2.2.b_, q4.2.2.i_, q4.2.2.h_, q4.2.1)) (some (c2.b_, c2.i_, c2.h_, us1))) = some (c3.b_, c3.i_, c3.h_, us) ∧ (∀ u ∈ us, u.size ≤ 1000000) ∧ Xdb c3 := by
  cases b with
  | true =>
   obtain ⟨s, us, c3, e3, _, g3, h3⟩ := Xx4 c2 h2
   rw [Xbi, e3, Xad]
   exact ⟨us, c3, rfl, g3, h3⟩
  | false => exact ⟨us1, c2, rfl, g1, h2⟩
 obtain ⟨us, c3, e3, g3, h3⟩ := hv
 rw [e3, Xad]
 simp only
 obtain ⟨a, c4, e4, a0, a1, h4⟩ := Ydk (⟨c3.b_, c3.i_, c3.h_⟩ : Xau) h3
 obtain ⟨n, c5, e5, _, h5⟩ := Xii c4 [2, 9, 40, 100, 400] h4 (by decide) (by decide)
 rw [e4, Xad]
 simp only
 rw [e5, Xad]
 simp only
 rw [Xt5 us a n (fun u hu => by have := g3 u hu; omega), Xad]
 exact ⟨us, a, n, _, rfl, h5⟩
theorem Xqo (b : List Int) (hb : b.length ≤ 1048576) : ∃ l, Xef b = some l ∧ (l = [] ∨ ∃ us s a N, Yhd us = (s, true) ∧ s.size ≠ 0 ∧ (0 ≤ a ∧ a ≤ 65535) ∧ (1 ≤ N ∧ N ≤ 400) ∧ (2 ≤ (s.size + N - 1) / N ∧ (s.size + N - 1) / N ≤ 24) ∧ l = pkL s a N ((s.size + N - 1) / N)) := by
 unfold Xef
 obtain ⟨c, e, hc⟩ := Xp7 b hb
 obtain ⟨us, a, n, c1, e1, _⟩ := Ybn c hc
 rw [e, Xad, e1, Xad]
 simp only
 rw [Xrs, Xad]
 rcases Yl6 us a n with hp | ⟨s, f1, f2, f3, f4, f5, f6, hp⟩
 ·
  rw [hp]
  exact ⟨[], rfl, Or.inl rfl⟩
 ·
  rw [hp]
  simp only
  rw [Yh4]
  cases hcnd : (decide ((((s.size + n.toNat - 1) / n.toNat : Nat) : Int) < 2) || decide ((((s.size + n.toNat - 1) / n.toNat : Nat) : Int) > 24)) with
  | true => exact ⟨[], rfl, Or.inl rfl⟩
  | false =>
   rw [Bool.or_eq_false_iff, decide_eq_false_iff_not, decide_eq_false_iff_not] at hcnd
   exact ⟨_, rfl, Or.inr ⟨us, s, a, n.toNat, f1, f2, f3, f4, by omega, rfl⟩⟩
theorem Yd1 (s : ByteArray) (a : Int) (N m k : Nat) (ha : 0 ≤ a ∧ a ≤ 65535) (hk : k < 24) : Xa9 a (Xjj s a N m k).Seq = k := by
 show Xa9 a (Xa3 a k) = k
 unfold Xa3
 rw [if_pos (by omega)]
 unfold Xa9
 rw [if_pos (by omega)]
 repeat' split
 all_goals omega
def Xkx (s : ByteArray) (a : Int) (N m : Nat) (S : Nat → Bool) : List Xal := ((List.range m).filter S).map (Xjj s a N m)
def Xke (s : ByteArray) (a : Int) (N m : Nat) (S : Nat → Bool) : Xa7 := ⟨true, a, 0, Xkx s a N m S, 0, 0, 0, 0, 0⟩
theorem Yf7 (s : ByteArray) (a : Int) (N m : Nat) (ha : 0 ≤ a ∧ a ≤ 65535) (hm : m ≤ 24) (pok : ∀ k, k < m → Xb3 (Xjj s a N m k) = true) : ∀ (l : List Nat) (Xkf : Int), l.Pairwise (· < ·) → (∀ k ∈ l, k < m) → (∀ k ∈ l, Xkf < (k : Int)) → Xe0 a Xkf (l.map (Xjj s a N m)) = true
 | [], _, _, _, _ => rfl
 | x :: r, Xkf, h1, h2, h3 => by
  have hx := h2 x (List.mem_cons_self)
  have g := Yd1 s a N m x ha (by omega)
  rw [List.pairwise_cons] at h1
  rw [List.map_cons, Xe0, g, pok x hx, Bool.true_and, Bool.and_eq_true, decide_eq_true_eq]
  refine ⟨⟨h3 x (List.mem_cons_self), by omega⟩, Yf7 s a N m ha hm pok r x h1.2 (fun k hk => h2 k (List.mem_cons_of_mem _ hk)) (fun k hk => ?_)⟩
  have := h1.1 k hk
  omega
theorem Yiz {m : Nat} {S : Nat → Bool} : ∀ k ∈ (List.range m).filter S, k < m := fun k hk => List.mem_range.1 (List.mem_filter.1 hk).1
theorem Yiy (s : ByteArray) (a : Int) (N m : Nat) (S : Nat → Bool) : (Xkx s a N m S).length ≤ m := by
 unfold Xkx
 rw [List.length_map]
 have := List.length_filter_le S (List.range m)
 rwa [List.length_range] at this
theorem Xtn (s : ByteArray) (a : Int) (N m : Nat) (ha : 0 ≤ a ∧ a ≤ 65535) (hm : m ≤ 24) (pok : ∀ k, k < m → Xb3 (Xjj s a N m k) = true) (S : Nat → Bool) : Xco (Xke s a N m S) = true := by
 rw [Xd5 rfl]
 have := Yiy s a N m S
 have c0 : cnt 0 = true := by decide
 refine ⟨⟨ha.1, ha.2, Int.le_refl 0, (show (0 : Int) ≤ 20 by decide), by show (Xkx s a N m S).length ≤ 24; omega⟩, ?_, Yhm c0 c0 c0 c0 c0⟩
 exact Yf7 s a N m ha hm pok _ (-1) (List.Pairwise.filter _ List.pairwise_lt_range) Yiz (fun k _ => by omega)
theorem Yoy (s : ByteArray) (a : Int) (N m k : Nat) (ha : 0 ≤ a ∧ a ≤ 65535) (hm : m ≤ 24) (hk : k < m) (S : Nat → Bool) : Xh0 (Xjj s a N m k).Seq (Xkx s a N m S) = S k := by
 unfold Xh0 Xkx
 rw [List.any_map]
 cases hS : S k with
 | true =>
  rw [List.any_eq_true]
  exact ⟨k, List.mem_filter.2 ⟨List.mem_range.2 hk, hS⟩, by simp⟩
 | false =>
  rw [List.any_eq_false]
  intro j hj
  have hjm := Yiz j hj
  have hjS := (List.mem_filter.1 hj).2
  simp only [Function.comp_apply, beq_iff_eq]
  intro e
  have g1 := Yd1 s a N m j ha (by omega)
  have g2 := Yd1 s a N m k ha (by omega)
  rw [e, g2] at g1
  have : k = j := by omega
  rw [this, hjS] at hS
  cases hS
theorem Yo2 (s : ByteArray) (a : Int) (N m k : Nat) (ha : 0 ≤ a ∧ a ≤ 65535) (hm : m ≤ 24) (hk : k < m) (S : Nat → Bool) (hS : S k = false) : ∀ l : List Nat, l.Pairwise (· < ·) → (∀ j ∈ l, j < m) → k ∈ l → Ypr a k (Xjj s a N m k) ((l.filter S).map (Xjj s a N m)) = (l.filter fun j => S j || j == k).map (Xjj s a N m)
 | [], _, _, h => by simp at h
 | x :: r, h1, h2, h3 => by
  rw [List.pairwise_cons] at h1
  have hx := h2 x (List.mem_cons_self)
  by_cases e : x = k
  ·
   subst e
   have hr : r.filter (fun j => S j || j == x) = r.filter S := by
    refine List.filter_congr fun j hj => ?_
    have := h1.1 j hj
    have : (j == x) = false := by rw [beq_eq_false_iff_ne]; omega
    rw [this, Bool.or_false]
   rw [List.filter_cons, hS, List.filter_cons, hS, hr]
   simp only [Bool.false_or, beq_self_eq_true, if_true, if_false, Bool.false_eq_true]
   have big : ∀ j ∈ r.filter S, x < j := fun j hj => h1.1 j (List.mem_filter.1 hj).1
   have small : ∀ j ∈ r.filter S, j < m := fun j hj => h2 j (List.mem_cons_of_mem _ (List.mem_filter.1 hj).1)
   cases hc : r.filter S with
   | nil => rfl
   | cons y t =>
    have hy := big y (by rw [hc]; exact List.mem_cons_self)
    have hym := small y (by rw [hc]; exact List.mem_cons_self)
    rw [List.map_cons, Ypr, Yd1 s a N m y ha (by omega), if_pos (by omega), List.map_cons, List.map_cons]
  ·
   have hkr : k ∈ r := by
    rcases List.mem_cons.1 h3 with h | h
    ·
     exact absurd h.symm e
    ·
     exact h
   have hlt := h1.1 k hkr
   have ih := Yo2 s a N m k ha hm hk S hS r h1.2 (fun j hj => h2 j (List.mem_cons_of_mem _ hj)) hkr
   have hb : (x == k) = false := by rw [beq_eq_false_iff_ne]; exact e
   rw [List.filter_cons, List.filter_cons, hb, Bool.or_false]
   cases hx' : S x with
   | true =>
    simp only [if_true]
    rw [List.map_cons, Ypr, Yd1 s a N m x ha (by omega), if_neg (by omega), ih, List.map_cons]
   | false =>
    simp only [Bool.false_eq_true, if_false]
    exact ih
theorem Yqy (s : ByteArray) (a : Int) (N m k : Nat) (ha : 0 ≤ a ∧ a ≤ 65535) (hm : m ≤ 24) (pok : ∀ k, k < m → Xb3 (Xjj s a N m k) = true) (hk : k < m) (S : Nat → Bool) (hS : S k = false) : qin (Xke s a N m S) (Xjj s a N m k) = (Xke s a N m (fun j => S j || j == k), 0) := by
 have g := Yd1 s a N m k ha (by omega)
 have hlt : (Xkx s a N m S).length < 24 := by
  have : ((List.range m).filter S).length < (List.range m).length := by
   rw [List.length_filter_lt_length_iff_exists]
   exact ⟨k, List.mem_range.2 hk, by rw [hS]; decide⟩
  unfold Xkx
  rw [List.length_map]
  rw [List.length_range] at this
  omega
 unfold qin
 rw [if_pos (Xtn s a N m ha hm pok S), if_pos (pok k hk), if_pos (show (Xke s a N m S).Begun = true from rfl)]
 show (if Xa9 a (Xjj s a N m k).Seq ≥ 40 ∨ Xa9 a (Xjj s a N m k).Seq < -40 then _ else if Xa9 a (Xjj s a N m k).Seq < 0 then _ else if Xh0 (Xjj s a N m k).Seq (Xkx s a N m S) = true then _ else if (Xkx s a N m S).length < 24 then _ else _) = _
 rw [g, if_neg (by omega), if_neg (by omega), Yoy s a N m k ha hm hk S, hS, if_neg (by decide), if_pos hlt]
 unfold Yqx Xke
 simp only
 rw [g]
 unfold Xkx
 rw [Yo2 s a N m k ha hm hk S hS _ List.pairwise_lt_range (fun j hj => List.mem_range.1 hj) (List.mem_range.2 hk)]
theorem Yjo (s : ByteArray) (a : Int) (N m : Nat) : ∀ n j, j + n = m → 0 < n → Xcg a j ((List.range' j n).map (Xjj s a N m)) = m
 | 0, j, _, h => by omega
 | n + 1, j, hj, _ => by
  rw [List.range'_succ, List.map_cons, Xcg, if_pos (show (Xjj s a N m j).Seq = Xa3 a j from rfl)]
  by_cases h : j + 1 = m
  ·
   rw [if_pos (show (Xjj s a N m j).Last = true from by unfold Xjj; simpa using h), h]
  ·
   rw [if_neg (show ¬ (Xjj s a N m j).Last = true from by unfold Xjj; simpa using h)]
   exact Yjo s a N m n (j + 1) (by omega) (by omega)
theorem Xu8 (rs : List Nat) (k : Nat) (hk : k < rs.length) (hn : rs.Nodup) (j : Nat) : (!(rs.take k ++ rs.drop (k + 1)).contains j) = (!rs.contains j || j == rs.getD k 0) := by
 have hsplit : rs = rs.take k ++ rs.getD k 0 :: rs.drop (k + 1) := by
  rw [← Yle rs k hk 0, List.take_append_drop]
 generalize rs.getD k 0 = r at *
 generalize rs.take k = A at *
 generalize rs.drop (k + 1) = B at *
 subst hsplit
 rw [List.nodup_append] at hn
 obtain ⟨n1, n2, n3⟩ := hn
 rw [List.nodup_cons] at n2
 rw [Bool.eq_iff_iff]
 simp only [Bool.not_eq_true', Bool.or_eq_true, beq_iff_eq, List.contains_eq_mem, decide_eq_false_iff_not, List.mem_append, List.mem_cons]
 constructor
 ·
  intro h
  by_cases e : j = r
  ·
   exact Or.inr e
  ·
   exact Or.inl (fun h' => h (by
    rcases h' with h' | h' | h'
    ·
     exact Or.inl h'
    ·
     exact absurd h' e
    ·
     exact Or.inr h'))
 ·
  intro h h'
  rcases h with h | h
  ·
   exact h (by
    rcases h' with h' | h'
    ·
     exact Or.inl h'
    ·
     exact Or.inr (Or.inr h'))
  ·
   subst h
   rcases h' with h' | h'
   ·
    exact n3 _ h' _ (List.mem_cons_self) rfl
   ·
    exact n2.1 h'
theorem Xu7 (s : ByteArray) (a : Int) (N m : Nat) (ha : 0 ≤ a ∧ a ≤ 65535) (hm : m ≤ 24) (pok : ∀ k, k < m → Xb3 (Xjj s a N m k) = true) (q3 : List Int) (h12 : q3.length = 12) (h3 : ∀ x ∈ q3, 0 ≤ x ∧ x < 10000) :
  ∀ (n : Nat) (i : Int) (rs : List Nat), rs.length = n → 0 ≤ i → i + n ≤ 24 → rs.Nodup → (∀ r ∈ rs, r < m) →
   loop (Xdg q3) (i, true, a, 0, 0, 0, 0, 0, 0, rs.map (Xjj s a N m), Xkx s a N m (fun j => !rs.contains j)) = some (.out (true, a, 0, 0, 0, 0, 0, 0, Xkx s a N m (fun _ => true)))
 | 0, i, rs, hl, h0, h1, hnd, hlt => by
  have : rs = [] := List.eq_nil_of_length_eq_zero hl
  subst this
  refine Xiz ?_
  unfold Xdg
  rw [Xay (by simp)]
  rfl
 | n + 1, i, rs, hl, h0, h1, hnd, hlt => by
  have hmx : maxLen = 9223372036854775807 := rfl
  have hq : 0 ≤ q3.getD (i.tmod 12).toNat 0 := by
   rw [Xbo h0]
   exact (h3 _ (by rw [Xde q3 _ (by omega)]; exact List.getElem_mem _)).1
  have hz : (q3.getD (i.tmod 12).toNat 0).tmod (rs.length : Int) = (((q3.getD (i.tmod 12).toNat 0).toNat % rs.length : Nat) : Int) := by
   obtain ⟨t, ht⟩ : ∃ t : Nat, q3.getD (i.tmod 12).toNat 0 = t := ⟨(q3.getD (i.tmod 12).toNat 0).toNat, by omega⟩
   rw [Xbo hq, ht, Int.toNat_natCast]
   rfl
  have hk : (q3.getD (i.tmod 12).toNat 0).toNat % rs.length < rs.length := Nat.mod_lt _ (by omega)
  generalize hkk : (q3.getD (i.tmod 12).toNat 0).toNat % rs.length = k at *
  have hat : (rs.map (Xjj s a N m)).getD k Xaw = Xjj s a N m (rs.getD k 0) := by
   rw [Xde _ k (by rw [List.length_map]; exact hk), List.getElem_map, Xde rs k hk]
  have hmem : rs.getD k 0 ∈ rs := by rw [Xde rs k hk]; exact List.getElem_mem _
  have hr := hlt _ hmem
  have hS : (!rs.contains (rs.getD k 0)) = false := by rw [List.contains_eq_mem, decide_eq_true hmem]; rfl
  have qi := Yqy s a N m (rs.getD k 0) ha hm pok hr (fun j => !rs.contains j) hS
  have hfun : (fun j => (!rs.contains j) || j == rs.getD k 0) = fun j => !(rs.take k ++ rs.drop (k + 1)).contains j := by
   funext j; exact (Xu8 rs k hk hnd j).symm
  rw [hfun] at qi
  have hasq : Xh0 (Xjj s a N m (rs.getD k 0)).Seq (Xkx s a N m (fun j => !(rs.take k ++ rs.drop (k + 1)).contains j)) = true := by
   rw [Yoy s a N m _ ha hm hr, Xu8 rs k hk hnd]
   simp
  have hl24 := Yiy s a N m (fun j => !rs.contains j)
  have hsub : (rs.take k ++ rs.drop (k + 1)).Sublist rs := by
   have := List.eraseIdx_sublist rs k
   rwa [List.eraseIdx_eq_take_drop_succ] at this
  have ih := Xu7 s a N m ha hm pok q3 h12 h3 n (i + 1) (rs.take k ++ rs.drop (k + 1)) (by rw [List.length_append, List.length_take, List.length_drop]; omega) (by omega) (by omega) (hsub.nodup hnd) (fun r hr => hlt r (hsub.mem hr))
  refine lgo ?_ ih
  unfold Xdg
  simp only [List.length_map, hz, Int.toNat_natCast]
  rw [syA, rqA, Xa4 (by rw [Xbo h0]; omega), Xa4 (by rw [Xbo h0]; omega), rqA, rqA, rqA]
  simp only [hat]
  rw [show (⟨true, a, 0, Xkx s a N m (fun j => !rs.contains j), 0, 0, 0, 0, 0⟩ : Xa7) = Xke s a N m (fun j => !rs.contains j) from rfl, show (⟨(Xjj s a N m (rs.getD k 0)).Seq, (Xjj s a N m (rs.getD k 0)).First, (Xjj s a N m (rs.getD k 0)).Last, (Xjj s a N m (rs.getD k 0)).Bytes⟩ : Xal) = Xjj s a N m (rs.getD k 0) from rfl, Xn0 _ _ (by show (Xkx s a N m _).length ≤ _; omega), Xad, qi]
  simp only
  rw [Xa5 (by rfl), rqA, rqA, Xng, Xad, Xtn s a N m ha hm pok, Bool.true_and, show (Xke s a N m (fun j => !(rs.take k ++ rs.drop (k + 1)).contains j)).Held = Xkx s a N m (fun j => !(rs.take k ++ rs.drop (k + 1)).contains j) from rfl, hasq, Bool.not_true, Xad, Xbf]
  rw [show (0 : Int).toNat = 0 from rfl, List.drop_zero, Nat.sub_zero, List.nil_append, wkA (e := (k : Int) + 1), show ((k : Int) + 1).toNat = k + 1 by omega, wkA (e := i + 1)]
  have tk : ((rs.map (Xjj s a N m)).drop (k + 1)).take (rs.length - (k + 1)) = (rs.map (Xjj s a N m)).drop (k + 1) := List.take_of_length_le (by rw [List.length_drop, List.length_map]; omega)
  rw [tk, rqA, Xa4 (by rw [List.length_take, List.length_map]; simp only [List.length_nil]; omega), rqA, Xa4 (by rw [List.length_take, List.length_drop, List.length_map]; omega), ← List.map_take, ← List.map_drop, ← List.map_append]
  rfl
theorem FnInOrder {p0 : List Int} (h0 : p0.length ≤ maxLen ∧ ∀ y ∈ p0, (Lit.int .u8 y).wf = true) : Xji p0 = some true := by
 have hmx : maxLen = 9223372036854775807 := rfl
 unfold Xji
 rw [Yhu, Xad]
 by_cases hb : (p0.length : Int) > 1048576
 ·
  rw [Xbh hb]
 rw [Xay hb]
 obtain ⟨l, el, hl⟩ := Xqo p0 (by omega)
 obtain ⟨q3, e3, h12, h3⟩ := Xrx p0 (by omega)
 rw [el, Xad, e3, Xad]
 rcases hl with rfl | ⟨us, s, a, N, f1, f2, ha, f4, f5, rfl⟩
 ·
  rfl
 have hlen := Yh4 s a N ((s.size + N - 1) / N)
 have pok := fun k hk => Ypp s a N k f4 hk ha ((s.size + N - 1) / N)
 have hat := Yqv s a N ((s.size + N - 1) / N)
 generalize hM : (s.size + N - 1) / N = m at *
 have at0 := hat 0 (by omega)
 have sq0 : (Xjj s a N m 0).Seq = a := by unfold Xjj Xa3; simp only; rw [if_pos (by omega)]; omega
 have pk0 := pok 0 (by omega)
 have qi : qin (⟨false, 0, 0, [], 0, 0, 0, 0, 0⟩ : Xa7) (Xjj s a N m 0) = (⟨true, a, 0, [Xjj s a N m 0], 0, 0, 0, 0, 0⟩, 0) := by
  unfold qin
  rw [if_pos (show Xco (⟨false, 0, 0, [], 0, 0, 0, 0, 0⟩ : Xa7) = true from rfl), if_pos pk0, if_neg (show ¬ (⟨false, 0, 0, [], 0, 0, 0, 0, 0⟩ : Xa7).Begun = true from by decide), sq0]
 have hr0 : List.range m = 0 :: (List.range m).drop 1 := by
  have : ∀ m, 1 ≤ m → List.range m = 0 :: (List.range m).drop 1 := by
   intro m hm
   obtain ⟨n, rfl⟩ : ∃ n, m = n + 1 := ⟨m - 1, by omega⟩
   rw [List.range_succ_eq_map]
   rfl
  exact this m (by omega)
 have hheld : Xkx s a N m (fun j => !((List.range m).drop 1).contains j) = [Xjj s a N m 0] := by
  have hnd : (List.range m).Nodup := List.nodup_range
  unfold Xkx
  rw [hr0] at hnd
  rw [List.nodup_cons] at hnd
  have h2 : ∀ D : List Nat, ¬ 0 ∈ D → (0 :: D).filter (fun j => !D.contains j) = [0] := by
   intro D hD
   have c0 : (!D.contains 0) = true := by rw [List.contains_eq_mem, decide_eq_false hD]; rfl
   have c1 : D.filter (fun j => !D.contains j) = [] := by
    rw [List.filter_eq_nil_iff]
    intro j hj
    rw [List.contains_eq_mem, decide_eq_true hj]; decide
   rw [List.filter_cons, c0, if_pos rfl, c1]
  have h4 := h2 _ hnd.1
  rw [← hr0] at h4
  rw [h4]; rfl
 rw [Xa5 (by rw [beq_eq_false_iff_ne]; omega), rqA, rqA, show (0 : Int).toNat = 0 from rfl, at0, show (⟨(Xjj s a N m 0).Seq, (Xjj s a N m 0).First, (Xjj s a N m 0).Last, (Xjj s a N m 0).Bytes⟩ : Xal) = Xjj s a N m 0 from rfl, Xn0 _ _ (by simp), Xad, qi]
 simp only
 rw [Xa5 (by rfl), rqA, show (1 : Int).toNat = 1 from rfl, Int.toNat_natCast]
 have tk : ((pkL s a N m).drop 1).take ((pkL s a N m).length - 1) = (pkL s a N m).drop 1 := List.take_of_length_le (by rw [List.length_drop]; omega)
 rw [tk, List.nil_append, Xa4 (by rw [List.length_drop]; simp only [List.length_nil]; omega)]
 have hdrop : (pkL s a N m).drop 1 = ((List.range m).drop 1).map (Xjj s a N m) := by unfold pkL; rw [List.map_drop]
 have lp := Xu7 s a N m ha f5.2 pok q3 h12 h3 (m - 1) 0 ((List.range m).drop 1) (by rw [List.length_drop, List.length_range]) (by omega) (by omega) ((List.drop_sublist 1 _).nodup List.nodup_range) (fun r hr => List.mem_range.1 (List.mem_of_mem_drop hr))
 rw [hheld] at lp
 rw [hdrop, lp, Xad]
 simp only
 have hall : Xkx s a N m (fun _ => true) = pkL s a N m := by unfold Xkx pkL; rw [List.filter_eq_self.2 (fun _ _ => rfl)]
 have qok := Xtn s a N m ha f5.2 pok (fun _ => true)
 have rdy : Xcg a 0 (pkL s a N m) = m := by
  have := Yjo s a N m m 0 (by omega) (by omega)
  rw [← List.range_eq_range'] at this
  exact this
 have qt : Yh5 (Xke s a N m (fun _ => true)) 0 = (⟨true, Xa3 a m, 0, [], 0, 0, 0, 0, 0⟩, pkL s a N m, 1) := by
  unfold Yh5
  rw [if_pos ⟨qok, by omega, by omega⟩]
  have hH : (Xke s a N m (fun _ => true)).Held = pkL s a N m := hall
  have hN : (Xke s a N m (fun _ => true)).Next = a := rfl
  rw [hH, hN, rdy, if_pos (by omega), List.drop_eq_nil_of_le (by omega), List.take_of_length_le (by omega)]
  rfl
 have okt : Xco (Yh5 (Xke s a N m (fun _ => true)) 0).1 = true := Ynz qok
 rw [show (⟨true, a, 0, Xkx s a N m (fun _ => true), 0, 0, 0, 0, 0⟩ : Xa7) = Xke s a N m (fun _ => true) from rfl, Xtk _ _ (by show (Xkx s a N m _).length ≤ _; rw [hall]; omega), Xad]
 rw [qt] at okt ⊢
 simp only
 rw [wkA (e := ((pkL s a N m).length : Int) - 1), show (((pkL s a N m).length : Int) - 1).toNat = m - 1 by omega, hat (m - 1) (by omega), Xe2, Xad]
 have sl : Xa3 (Xjj s a N m (m - 1)).Seq 1 = Xa3 a m := by
  have h1 : (Xjj s a N m (m - 1)).Seq = Xa3 a ((m - 1 : Nat) : Int) := rfl
  rw [h1, Yh9 ha (by omega), show ((m - 1 + 1 : Nat) : Int) = (m : Int) by omega]
 rw [sl, Xa8 (by rfl), Xn4 _ (by omega), Xad, Xbi, Xa8 (by rfl), rqA, rqA, beq_self_eq_true, Xbi, Xh3, okt, Xad, Xad]
end Go.Proofs.YtlebkepfhdjnmadGreat.A.Pure
