/- The pure statement of the law FnGivenUp: over numbers, texts and lists alone, what the law computes is true. Conditions: the sizes of what a machine holds. -/
import Derived.Test.YtlebkepfhdjnmaaDFnGivenUp
namespace Go.Proofs.Ytlebkepfhdjnmaa.A.Pure
open Go Go.Proofs Go.Proofs.YtlebkepfhdjnmaaAL Go.RowKit
set_option linter.unusedVariables false
set_option linter.unusedSimpArgs false
set_option maxHeartbeats 1000000
noncomputable section
def Xbn (p0 : Xah) (v13 : Int) : Option (Lp Int Int) :=
 bnd (
 sel (decide (v13 < (Xag .i64 ((p0.Held.length : Int) - 1)))) (
 req (0 ≤ v13 ∧ v13 < p0.Held.length) <|
 some (!((p0.Held.getD v13.toNat Xaf).Last))) (
 some false)) fun v17 =>
 sel v17 (
 some (.go (Xag .i64 (v13 + 1)))) (
 some (.done v13))
end
theorem Xae {α β : Type} (a : α) (f : α → Option β) : bnd (some a) f = f a := rfl
theorem Xg3 {β : Type} (x y : β) : sel true x y = x := rfl
theorem Xk7 {β : Type} (x y : β) : sel false x y = y := rfl
theorem Xp0 {β : Type} (b : Bool) (x y : β) : sel (!b) x y = sel b y x := by cases b <;> rfl
theorem Xhx (b x : Bool) : sel b (some x) (some false) = some (b && x) := by cases b <;> rfl
theorem Xrf (b x : Bool) : sel b (some true) (some x) = some (b || x) := by cases b <;> rfl
theorem Xfs (b x : Bool) : sel b (some x) (some true) = some (!b || x) := by cases b <;> rfl
theorem Xre {β : Type} (p : Prop) [Decidable p] (x y : β) : sel (decide p) x y = if p then x else y := by
 by_cases h : p <;> simp [h, sel]
theorem Xa0 {β : Type} {b : Bool} {x y : β} (h : b = true) : sel b x y = x := by subst h; rfl
theorem Xa2 {β : Type} {b : Bool} {x y : β} (h : b = false) : sel b x y = y := by subst h; rfl
theorem Xcz {β : Type} {p : Prop} [Decidable p] {x y : β} (h : p) : sel (decide p) x y = x := by simp [h, sel]
theorem Xcj {β : Type} {p : Prop} [Decidable p] {x y : β} (h : ¬ p) : sel (decide p) x y = y := by simp [h, sel]
theorem Xcy {β : Type} {c : Prop} [Decidable c] {k : Option β} (h : c) : req c k = k := if_pos h
theorem wk {e : Int} (h1 : -9223372036854775808 ≤ e) (h2 : e ≤ 9223372036854775807) : Xag .i64 e = e := by
 show wrap64 e = e
 unfold wrap64; omega
theorem rqA {β : Type} {c : Prop} [Decidable c] {k : Option β} (h : c := by omega) : req c k = k := Xcy h
theorem syA {β : Type} {c : Prop} [Decidable c] {x y : β} (h : c := by omega) : sel (decide c) x y = x := Xcz h
theorem snA {β : Type} {c : Prop} [Decidable c] {x y : β} (h : ¬ c := by omega) : sel (decide c) x y = y := Xcj h
theorem wkA {e : Int} (h1 : -9223372036854775808 ≤ e := by omega) (h2 : e ≤ 9223372036854775807 := by omega) : Xag .i64 e = e := wk h1 h2
theorem Xq2 : maxLen = 9223372036854775807 := rfl
theorem Xeg {a b : Int} (h : 0 ≤ a) : Int.tmod a b = a % b := Int.tmod_eq_emod_of_nonneg h
theorem lgo {V O : Type} {f : V → Option (Lp V O)} {x y : V} {r : Option O} (h : f x = some (.go y)) (k : loop f y = r) : loop f x = r := by rw [Xe5 h]; exact k
theorem Xme {V O : Type} {f : V → Option (Lp V O)} {x : V} {o : O} (h : f x = some (.done o)) : loop f x = some o := Xbz h
theorem Xfo {V O : Type} {f : V → Option (Lp V O)} (I : V → Prop) (m : V → Nat) (Q : V → O → Prop) (h : ∀ v, I v → (∃ o, f v = some (.done o) ∧ Q v o) ∨ ∃ v', f v = some (.go v') ∧ I v' ∧ m v' < m v ∧ ∀ o, Q v' o → Q v o) : ∀ v, I v → ∃ o, loop f v = some o ∧ Q v o := by
 intro v
 generalize hn : m v = n
 induction n using Nat.strongRecOn generalizing v with
 | _ n ih =>
  intro hv
  rcases h v hv with ⟨o, h1, h2⟩ | ⟨v', h1, h2, h3, h4⟩
  ·
   exact ⟨o, Xbz h1, h2⟩
  ·
   obtain ⟨o, h5, h6⟩ := ih (m v') (by omega) v' rfl h2
   exact ⟨o, by rw [Xe5 h1]; exact h5, h4 o h6⟩
theorem Xjq {α : Type} (l : List α) (i : Nat) (h : i < l.length) (d : α) : l.getD i d = l[i] := by
 simp [List.getD_eq_getElem?_getD, List.getElem?_eq_getElem h]
theorem Xs1 {α : Type} (l : List α) (i : Nat) (h : i < l.length) (d : α) : l.drop i = l.getD i d :: l.drop (i + 1) := by
 rw [List.drop_eq_getElem_cons h, Xjq l i h]
theorem Xbw (a b c : Int) : Xbv a b c = some (decide (b ≤ a ∧ a ≤ c)) := by
 unfold Xbv
 by_cases h : b ≤ a <;> simp [bnd, sel, h]
theorem Xbt (a b c : Int) : Xa8 a b c = some (decide (b ≤ a ∧ a ≤ c)) := by
 unfold Xa8
 by_cases h : b ≤ a <;> simp [bnd, sel, h]
theorem Xc4 (a : Int) : Xba a = some (decide (0 ≤ a ∧ a ≤ 65535)) := by
 unfold Xba; rw [Xbw]; rfl
theorem Xeu {α : Type} (a : List α) (x d : α) (b : List α) : (a ++ x :: b).getD a.length d = x := by
 induction a with
 | nil => rfl
 | cons z a ih => simp
theorem Xl5 (y : Int) : 0 ≤ IntKind.wrap .i64 (BitVec.ofInt (IntKind.bits .i64) y &&& BitVec.ofInt (IntKind.bits .i64) 255).toNat ∧ IntKind.wrap .i64 (BitVec.ofInt (IntKind.bits .i64) y &&& BitVec.ofInt (IntKind.bits .i64) 255).toNat ≤ 255 := by
 have h : (BitVec.ofInt (IntKind.bits .i64) y &&& BitVec.ofInt (IntKind.bits .i64) 255).toNat ≤ 255 := by
  rw [BitVec.toNat_and]
  exact Nat.le_trans Nat.and_le_right (by decide)
 generalize (BitVec.ofInt (IntKind.bits .i64) y &&& BitVec.ofInt (IntKind.bits .i64) 255).toNat = n at h ⊢
 rw [← Xhc, wkA]
 omega
def Xdy (c : Xas) : Prop := c.b_.length ≤ 1048576 ∧ 0 ≤ c.i_
theorem Xga (b : List Int) (hb : b.length ≤ 1048576) : ∃ c, Xdr b = some c ∧ Xdy c := by
 unfold Xdr
 obtain ⟨o, h, _⟩ := Xfo (f := Xdw b) (fun v => 0 ≤ v.2) (fun v => b.length - v.2.toNat) (fun _ _ => True) (by
  intro ⟨h, i⟩ hi
  unfold Xdw
  simp only [Xhx, Xae] at hi ⊢
  by_cases h1 : i < b.length ∧ i < 4000
  ·
   rw [Xa0 (by simp; exact h1), Xcy ⟨hi, h1.1⟩]
   refine .inr ⟨_, rfl, ?_, ?_, fun _ _ => trivial⟩
   ·
    simp only; rw [wkA]; omega
   ·
    simp only; rw [wkA]; omega
  ·
   rw [Xa2 (by simp; omega)]
   exact .inl ⟨_, rfl, trivial⟩) (Xag .i64 (94701 + (b.length : Int)), 0) (by simp)
 rw [h]
 exact ⟨_, rfl, hb, by simp⟩
theorem Xb1 (c : Xas) (hc : Xdy c) : ∃ x c', Xbe c = some (x, c') ∧ 0 ≤ x ∧ x ≤ 255 ∧ Xdy c' := by
 unfold Xbe
 rw [Xcy (by decide), Xcy (by decide)]
 obtain ⟨h1, h2⟩ := hc
 by_cases h : c.i_ < c.b_.length
 ·
  rw [Xcz h, Xcy ⟨h2, h⟩, Xae]
  refine ⟨_, _, rfl, (Xl5 _).1, (Xl5 _).2, h1, ?_⟩
  simp only; rw [wkA]; omega
 ·
  rw [Xcj h, Xae]
  exact ⟨_, _, rfl, (Xl5 _).1, (Xl5 _).2, h1, h2⟩
theorem Xax (c : Xas) (n : Int) (hc : Xdy c) : ∃ x c', Xar c n = some (x, c') ∧ 0 ≤ x ∧ (0 < n → x < n) ∧ (n ≤ 0 → x = 0) ∧ Xdy c' := by
 unfold Xar
 by_cases h0 : n ≤ 0
 ·
  rw [Xcz h0]; exact ⟨_, _, rfl, by omega, fun h => by omega, fun _ => rfl, hc⟩
 ·
  rw [Xcj h0]
  obtain ⟨x, c1, e1, a1, b1, hc1⟩ := Xb1 c hc
  by_cases h1 : n ≤ 256
  ·
   rw [Xcz h1, e1, Xae, rqA]
   refine ⟨_, _, rfl, ?_, fun _ => ?_, fun h => by omega, hc1⟩
   ·
    simp only; rw [Xeg a1]; exact Int.emod_nonneg _ (by omega)
   ·
    simp only; rw [Xeg a1]; exact Int.emod_lt_of_pos _ (by omega)
  ·
   obtain ⟨y, c2, e2, a2, b2, hc2⟩ := Xb1 c1 hc1
   obtain ⟨z, c3, e3, a3, b3, hc3⟩ := Xb1 c2 hc2
   obtain ⟨u, c4, e4, a4, b4, hc4⟩ := Xb1 c3 hc3
   rw [Xcj h1, e1, Xae]
   simp only
   rw [e2, Xae]
   simp only
   rw [e3, Xae]
   simp only
   rw [e4, Xae, rqA]
   simp only
   rw [wkA (e := x * 16777216), wkA (e := y * 65536), wkA (e := z * 256), wkA (e := x * 16777216 + y * 65536), wkA (e := x * 16777216 + y * 65536 + z * 256), wkA, Xeg (by omega)]
   exact ⟨_, _, rfl, Int.emod_nonneg _ (by omega), fun _ => Int.emod_lt_of_pos _ (by omega), fun h => by omega, hc4⟩
theorem Xb3 (c : Xas) (n : Int) (hc : Xdy c) : ∃ x c', Xbk c n = some (x, c') ∧ Xdy c' := by
 unfold Xbk
 obtain ⟨x, c', e, _, _, _, h⟩ := Xax c n hc
 rw [e, Xae]; exact ⟨_, _, rfl, h⟩
theorem Xod (l : List Int) : Xjc l = some (decide ((l.length : Int) > 1048576)) := rfl
theorem Xg5 (b : List Int) (hb : b.length ≤ 1048576) : ∃ l, Xco b = some l ∧ l.length = 12 ∧ ∀ x ∈ l, 0 ≤ x ∧ x < 10000 := by
 unfold Xco
 obtain ⟨c, e, hc⟩ := Xga b hb
 obtain ⟨x, c1, e1, _, _, hc1⟩ := Xb1 c hc
 rw [e, Xae, e1, Xae]
 obtain ⟨o, h, h2⟩ := Xfo (f := Xck) (fun v => 0 ≤ v.1 ∧ v.1 ≤ 12 ∧ Xdy ⟨v.2.1, v.2.2.1, v.2.2.2.1⟩ ∧ (v.2.2.2.2.length : Int) = v.1 ∧ ∀ x ∈ v.2.2.2.2, 0 ≤ x ∧ x < 10000) (fun v => 12 - v.1.toNat) (fun _ o => o.length = 12 ∧ ∀ x ∈ o, 0 ≤ x ∧ x < 10000) (by
  intro ⟨i, b, j, h, l⟩ ⟨h1, h2, h3, h4, h5⟩
  unfold Xck
  simp only at h1 h2 h3 h4 h5 ⊢
  by_cases hi : i < 12
  ·
   obtain ⟨x, c', ex, x0, x1, _, hx⟩ := Xax _ 10000 h3
   rw [Xcz hi, ex, Xae, Xcy (by rw [Xq2]; simp only [List.length_singleton]; omega)]
   refine .inr ⟨_, rfl, ?_, ?_, fun _ h => h⟩
   ·
    rw [wkA]
    refine ⟨by omega, by omega, hx, by simp; omega, ?_⟩
    intro y hy
    rcases List.mem_append.1 hy with hy | hy
    ·
     exact h5 y hy
    ·
     rw [List.mem_singleton.1 hy]; exact ⟨x0, x1 (by omega)⟩
   ·
    rw [wkA]; omega
  ·
   rw [Xcj hi]
   exact .inl ⟨_, rfl, by omega, h5⟩) (0, c1.b_, c1.i_, c1.h_, []) ⟨by simp, by simp, hc1, by simp, by simp⟩
 rw [h]
 exact ⟨_, rfl, h2⟩
def Xn7 (n a b : Int) : Int := if b < a ∨ n < a then a else if n > b then b else n
def Xav (a b : Int) : Int := if 0 ≤ a ∧ a ≤ 65535 ∧ 0 ≤ b ∧ b ≤ 65535 then (a + b) % 65536 else 0
theorem Xem (a b : Int) : Xcm a b = some (Xav a b) := by
 unfold Xcm Xav
 simp only [Xc4, Xae, Xfs]
 by_cases h : 0 ≤ a ∧ a ≤ 65535 ∧ 0 ≤ b ∧ b ≤ 65535
 ·
  rw [if_pos h, Xa2 (by simp; omega), Xcy (by decide), wkA, Xeg (by omega)]
 ·
  rw [if_neg h, Xa0 (by simp; omega)]
theorem Xer (a b : Int) : Xcr a b = some (Xav a b) := by
 unfold Xcr Xav
 simp only [Xbt, Xae, Xfs]
 by_cases h : 0 ≤ a ∧ a ≤ 65535 ∧ 0 ≤ b ∧ b ≤ 65535
 ·
  rw [if_pos h, Xa2 (by simp; omega), Xcy (by decide), wkA, Xeg (by omega)]
 ·
  rw [if_neg h, Xa0 (by simp; omega)]
def Xan (a b : Int) : Int := if 0 ≤ a ∧ a ≤ 65535 ∧ 0 ≤ b ∧ b ≤ 65535 then (if b - a > 32767 then b - a - 65536 else if b - a < -32768 then b - a + 65536 else b - a) else 0
theorem Xk3 (a b : Int) : Xek a b = some (Xan a b) := by
 unfold Xek Xan
 simp only [Xc4, Xae, Xfs]
 by_cases h : 0 ≤ a ∧ a ≤ 65535 ∧ 0 ≤ b ∧ b ≤ 65535
 ·
  rw [if_pos h, Xa2 (by simp; omega), Xcy (by decide), wkA (e := b - a), wkA (e := b - a + 65536), Xeg (by omega), wkA, Xre]
  repeat' split
  all_goals (simp only [Xae]; congr 1; omega)
 ·
  rw [if_neg h, Xa0 (by simp; omega)]
theorem Xce (a b : Int) : Xbx a b = some (Xan a b) := by
 unfold Xbx Xan
 simp only [Xbt, Xae, Xfs]
 by_cases h : 0 ≤ a ∧ a ≤ 65535 ∧ 0 ≤ b ∧ b ≤ 65535
 ·
  rw [if_pos h, Xa2 (by simp; omega), wkA (e := b - a), wkA]
  simp only [Xre]
  by_cases h1 : b - a > 32767
  ·
   rw [if_pos h1, if_pos h1, Xae, if_neg (by omega), Xae]
  ·
   rw [if_neg h1, if_neg h1, Xae]
   by_cases h2 : b - a < -32768
   ·
    rw [if_pos h2, if_pos h2, Xae, wkA]
   ·
    rw [if_neg h2, if_neg h2, Xae]
 ·
  rw [if_neg h, Xa0 (by simp; omega)]
def Xay (p : Xaa) : Bool := decide (0 ≤ p.Seq ∧ p.Seq ≤ 65535 ∧ 1 ≤ p.Bytes.size ∧ p.Bytes.size ≤ 400)
theorem Xbj (p : Xaa) : Xay p = true ↔ 0 ≤ p.Seq ∧ p.Seq ≤ 65535 ∧ 1 ≤ p.Bytes.size ∧ p.Bytes.size ≤ 400 := by simp [Xay]
theorem Xig (p : Xaa) : Xdc p = some (Xay p) := by
 unfold Xdc Xay
 simp only [Xc4, Xbw, Xae, Xhx]
 congr 1
 rw [Bool.eq_iff_iff]; simp; omega
theorem Xfu (p : Xaa) : Xcw p = some (Xay p) := by
 unfold Xcw Xay
 simp only [Xbt, Xae, Xhx]
 congr 1
 rw [Bool.eq_iff_iff]; simp; omega
def cnt (n : Int) : Bool := decide (0 ≤ n ∧ n ≤ 1000000000)
theorem Xi3 (n : Int) : Xbi n = some (cnt n) := by
 unfold Xbi cnt
 rw [Xbt, Xae]
def Xk4 (n : Int) : Int := if n + 1 < 1000000000 then n + 1 else 1000000000
theorem Xjv (n : Int) (h : cnt n = true) : Xdz n = some (Xk4 n) := by
 have h' : 0 ≤ n ∧ n ≤ 1000000000 := by simpa [cnt] using h
 unfold Xdz Xk4
 rw [wkA]
 congr 1
 split <;> split <;> omega
theorem Xkh (n a b : Int) : Xd1 n a b = some (Xn7 n a b) := by
 unfold Xd1 Xn7
 rw [Xrf, Xae]
 by_cases h : b < a ∨ n < a
 ·
  rw [if_pos h, Xa0 (by simpa using h)]
 ·
  rw [if_neg h, Xa2 (by simp; omega), Xre]; split <;> rfl
theorem Xct (n : Int) (h : cnt n = true) : Xbu n = some (Xk4 n) := by
 have h' : 0 ≤ n ∧ n ≤ 1000000000 := by simpa [cnt] using h
 unfold Xbu Xk4
 rw [wkA, Xkh, Xae]
 unfold Xn7
 congr 1
 repeat' split
 all_goals omega
def Xa9 (next : Int) : Int → List Xaa → Bool
 | _, [] => true
 | Xda, p :: r => Xay p && decide (Xda < Xan next p.Seq ∧ Xan next p.Seq < 40) && Xa9 next (Xan next p.Seq) r
def Xqn (q : Xah) : Bool := cnt q.Late && cnt q.Far && cnt q.Twice && cnt q.Over && cnt q.Lost
def Xap (q : Xah) : Bool :=
 if q.Begun = true then decide (0 ≤ q.Next ∧ q.Next ≤ 65535 ∧ 0 ≤ q.Age ∧ q.Age ≤ 20 ∧ q.Held.length ≤ 24) && (Xa9 q.Next (-1) q.Held && Xqn q)
 else decide (q.Next = 0 ∧ q.Age = 0 ∧ q.Held.length = 0 ∧ q.Late = 0 ∧ q.Far = 0 ∧ q.Twice = 0 ∧ q.Over = 0 ∧ q.Lost = 0)
theorem Xep (q : Xah) : Xcq q = some (Xap q) := by
 unfold Xcq Xap
 simp only [Xbt, Xi3, Xae, Xhx, Xfs]
 by_cases hb : q.Begun = true
 ·
  rw [Xa2 (by simp [hb]), if_pos hb]
  by_cases h1 : 0 ≤ q.Next ∧ q.Next ≤ 65535 ∧ 0 ≤ q.Age ∧ q.Age ≤ 20 ∧ q.Held.length ≤ 24
  ·
   rw [Xa2 (by simp; omega), decide_eq_true h1, Bool.true_and]
   have key : ∀ (r a : List Xaa) (Xda : Int), q.Held = a ++ r → loop (Xb0 q) (Xda, (a.length : Int)) = some (if Xa9 q.Next Xda r = true then .out () else .ret false) := by
    intro r
    induction r with
    | nil =>
     intro a Xda ha
     rw [List.append_nil] at ha
     refine Xme ?_
     unfold Xb0
     simp only
     rw [Xcj (by rw [ha]; omega)]; rfl
    | cons p r ih =>
     intro a Xda ha
     have hlen : a.length < q.Held.length := by rw [ha]; simp
     have hp : q.Held.getD a.length Xaf = p := by rw [ha]; exact Xeu a p _ r
     have hstep : Xb0 q (Xda, (a.length : Int)) = sel (!(Xay p && decide (Xda < Xan q.Next p.Seq ∧ Xan q.Next p.Seq < 40))) (some (.done (.ret false))) (some (.go (Xan q.Next p.Seq, ((a.length + 1 : Nat) : Int)))) := by
      unfold Xb0
      simp only [Int.toNat_natCast, hp]
      rw [syA, rqA, Xce, Xae, rqA, Xfu, Xae, wkA, Xrf, Xfs, Xae]
      congr 1
      cases Xay p <;> rw [Bool.eq_iff_iff] <;> simp <;> omega
     by_cases h : Xay p = true ∧ Xda < Xan q.Next p.Seq ∧ Xan q.Next p.Seq < 40
     ·
      rw [lgo (by rw [hstep, Xa2 (by simp [h])]) rfl]
      have := ih (a ++ [p]) (Xan q.Next p.Seq) (by rw [ha]; simp)
      rw [List.length_append, List.length_singleton] at this
      rw [this]
      simp [Xa9, h]
     ·
      rw [Xme (by rw [hstep, Xa0 (by simp only [Bool.not_eq_true', Bool.and_eq_false_iff, decide_eq_false_iff_not]; by_cases hp : Xay p = true; exact .inr (fun e => h ⟨hp, e⟩); exact .inl (by simpa using hp))])]
      rw [if_neg]
      simp only [Xa9, Bool.and_eq_true, decide_eq_true_eq]
      exact fun e => h ⟨e.1.1, e.1.2⟩
   have := key q.Held [] (-1) rfl
   simp only [List.length_nil] at this
   rw [show (((-1 : Int), (0 : Int))) = ((-1), ((0 : Nat) : Int)) from rfl, this, Xae]
   by_cases h2 : Xa9 q.Next (-1) q.Held = true
   ·
    rw [if_pos h2, h2]; simp only [Xqn, Bool.true_and, Bool.and_assoc]
   ·
    rw [if_neg h2]; simp only [Bool.not_eq_true] at h2; rw [h2]; rfl
  ·
   rw [Xa0 (by simp; omega), decide_eq_false h1, Bool.false_and]
 ·
  rw [Xa0 (by simpa using hb), if_neg hb]
  congr 1
  rw [Bool.eq_iff_iff]; simp
theorem Xfy (q : Xah) : Xa1 q = some (Xap q) := by
 unfold Xa1 Xap
 simp only [Xc4, Xbw, Xae, Xhx, Xfs]
 by_cases hb : q.Begun = true
 ·
  rw [Xa2 (by simp [hb]), if_pos hb]
  by_cases h1 : 0 ≤ q.Next ∧ q.Next ≤ 65535 ∧ 0 ≤ q.Age ∧ q.Age ≤ 20 ∧ q.Held.length ≤ 24
  ·
   rw [Xa2 (by simp; omega), decide_eq_true h1, Bool.true_and]
   have key : ∀ (r a : List Xaa) (Xda : Int), q.Held = a ++ r → -1 ≤ Xda → Xda < 40 → loop (Xby q) (Xda, (a.length : Int)) = some (if Xa9 q.Next Xda r = true then .out () else .ret false) := by
    intro r
    induction r with
    | nil =>
     intro a Xda ha _ _
     rw [List.append_nil] at ha
     refine Xme ?_
     unfold Xby
     simp only
     rw [Xcj (by rw [ha]; omega)]; rfl
    | cons p r ih =>
     intro a Xda ha hl1 hl2
     have hlen : a.length < q.Held.length := by rw [ha]; simp
     have hp : q.Held.getD a.length Xaf = p := by rw [ha]; exact Xeu a p _ r
     have hstep : Xby q (Xda, (a.length : Int)) = sel (!(Xay p && decide (Xda < Xan q.Next p.Seq ∧ Xan q.Next p.Seq < 40))) (some (.done (.ret false))) (some (.go (Xan q.Next p.Seq, ((a.length + 1 : Nat) : Int)))) := by
      unfold Xby
      simp only [Int.toNat_natCast, hp]
      rw [syA, rqA, Xk3, Xae, Xig, Xae, wkA, Xbw, Xae, wkA, Xfs, Xae]
      congr 1
      cases Xay p <;> rw [Bool.eq_iff_iff] <;> simp <;> omega
     by_cases h : Xay p = true ∧ Xda < Xan q.Next p.Seq ∧ Xan q.Next p.Seq < 40
     ·
      rw [lgo (by rw [hstep, Xa2 (by simp [h])]) rfl]
      have := ih (a ++ [p]) (Xan q.Next p.Seq) (by rw [ha]; simp) (by omega) (by omega)
      rw [List.length_append, List.length_singleton] at this
      rw [this]
      simp [Xa9, h]
     ·
      rw [Xme (by rw [hstep, Xa0 (by simp only [Bool.not_eq_true', Bool.and_eq_false_iff, decide_eq_false_iff_not]; by_cases hp : Xay p = true; exact .inr (fun e => h ⟨hp, e⟩); exact .inl (by simpa using hp))])]
      rw [if_neg]
      simp only [Xa9, Bool.and_eq_true, decide_eq_true_eq]
      exact fun e => h ⟨e.1.1, e.1.2⟩
   have := key q.Held [] (-1) rfl (by omega) (by omega)
   simp only [List.length_nil] at this
   rw [show (((-1 : Int), (0 : Int))) = ((-1), ((0 : Nat) : Int)) from rfl, this, Xae]
   by_cases h2 : Xa9 q.Next (-1) q.Held = true
   ·
    rw [if_pos h2, h2, Bool.true_and]
    have st : ∀ i : Nat, i < 5 → Xbc q (i : Int) = sel (cnt (([q.Late, q.Far, q.Twice, q.Over, q.Lost]).getD i 0)) (some (.go ((i + 1 : Nat) : Int))) (some (.done (.ret false))) := by
     intro i hi
     unfold Xbc
     simp only [List.length_cons, List.length_nil]
     rw [syA, rqA, rqA, Xbw, Xae, Xp0, wkA]
     rfl
    have e5 : loop (Xbc q) ((5 : Nat) : Int) = some (.out ()) := Xme (by unfold Xbc; rw [Xcj (by simp)])
    have go : ∀ i : Nat, i < 5 → loop (Xbc q) (i : Int) = sel (cnt (([q.Late, q.Far, q.Twice, q.Over, q.Lost]).getD i 0)) (loop (Xbc q) ((i + 1 : Nat) : Int)) (some (.ret false)) := by
     intro i hi
     have := st i hi
     cases h : cnt (([q.Late, q.Far, q.Twice, q.Over, q.Lost]).getD i 0) with
     | true => rw [h] at this; exact Xe5 this
     | false => rw [h] at this; exact Xbz this
    have := go 0 (by omega)
    rw [show (0 : Int) = ((0 : Nat) : Int) from rfl, this, go 1 (by omega), go 2 (by omega), go 3 (by omega), go 4 (by omega), e5]
    simp only [Xqn, List.getD_cons_zero, List.getD_cons_succ]
    cases cnt q.Late <;> cases cnt q.Far <;> cases cnt q.Twice <;> cases cnt q.Over <;> cases cnt q.Lost <;> rfl
   ·
    rw [if_neg h2]; simp only [Bool.not_eq_true] at h2; rw [h2]; rfl
  ·
   rw [Xa0 (by simp; omega), decide_eq_false h1, Bool.false_and]
 ·
  rw [Xa0 (by simpa using hb), if_neg hb]
  congr 1
  rw [Bool.eq_iff_iff]; simp
theorem Xll : ∀ {l : List Xaa} {n Xda : Int}, Xa9 n Xda l = true → ∀ p ∈ l, Xay p = true
 | [], _, _, _, p, hp => by simp at hp
 | q :: r, n, Xda, h, p, hp => by
  rw [Xa9, Bool.and_eq_true, Bool.and_eq_true] at h
  rcases List.mem_cons.1 hp with rfl | hp
  ·
   exact h.1.1
  ·
   exact Xll h.2 p hp
theorem Xaq {q : Xah} (h : Xap q = true) : 0 ≤ q.Next ∧ q.Next ≤ 65535 ∧ q.Held.length ≤ 24 ∧ 0 ≤ q.Age ∧ q.Age ≤ 20 ∧ Xqn q = true ∧ ∀ p ∈ q.Held, Xay p = true := by
 unfold Xap at h
 by_cases hb : q.Begun = true
 ·
  rw [if_pos hb, Bool.and_eq_true, Bool.and_eq_true, decide_eq_true_eq] at h
  exact ⟨h.1.1, h.1.2.1, h.1.2.2.2.2, h.1.2.2.1, h.1.2.2.2.1, h.2.2, Xll h.2.1⟩
 ·
  rw [if_neg hb, decide_eq_true_eq] at h
  obtain ⟨h1, h2, h3, h4, h5, h6, h7, h8⟩ := h
  have : q.Held = [] := List.length_eq_zero_iff.1 h3
  refine ⟨by omega, by omega, by omega, by omega, by omega, ?_, by rw [this]; simp⟩
  unfold Xqn cnt; rw [h4, h5, h6, h7, h8]; rfl
theorem Xei {q : Xah} (h : Xqn q = true) : cnt q.Late = true ∧ cnt q.Far = true ∧ cnt q.Twice = true ∧ cnt q.Over = true ∧ cnt q.Lost = true := by
 unfold Xqn at h
 simp only [Bool.and_eq_true] at h
 exact ⟨h.1.1.1.1, h.1.1.1.2, h.1.1.2, h.1.2, h.2⟩
theorem Xhs (q : Xah) (h : q.Held.length ≤ 1048576) : Xc3 q = some q := by
 have hm : maxLen = 9223372036854775807 := rfl
 unfold Xc3
 rw [Xcy (by simp only [List.length_nil]; omega), List.nil_append]
theorem Xf2 (q : Xah) (h : q.Held.length ≤ 1048576) : Xc9 q = some q := by
 have hm : maxLen = 9223372036854775807 := rfl
 unfold Xc9
 rw [Xcy (by simp only [List.length_nil]; omega), List.nil_append]
def Xdm (s : Int) (l : List Xaa) : Bool := l.any fun p => p.Seq == s
theorem Xr5 (q : Xah) (s : Int) (f : Int → Option (Lp Int (Ou Unit Bool))) (hl : q.Held.length ≤ 1048576)
  (h : ∀ i : Nat, i < q.Held.length → f (i : Int) = sel (((q.Held.getD i Xaf).Seq) == s) (some (.done (.ret true))) (some (.go ((i + 1 : Nat) : Int)))) (h0 : f (q.Held.length : Int) = some (.done (.out ()))) :
  loop f 0 = some (if Xdm s q.Held = true then .ret true else .out ()) := by
 have key : ∀ (r a : List Xaa), q.Held = a ++ r → loop f (a.length : Int) = some (if Xdm s r = true then .ret true else .out ()) := by
  intro r
  induction r with
  | nil => intro a ha; rw [List.append_nil] at ha; rw [ha] at h0; rw [Xbz h0]; rfl
  | cons p r ih =>
   intro a ha
   have hlen : a.length < q.Held.length := by rw [ha]; simp
   have hp : q.Held.getD a.length Xaf = p := by rw [ha]; exact Xeu a p _ r
   have hs := h a.length hlen
   rw [hp] at hs
   by_cases e : p.Seq = s
   ·
    rw [Xa0 (by simpa using e)] at hs
    rw [Xbz hs, if_pos (by simp [Xdm, e])]
   ·
    rw [Xa2 (by simpa using e)] at hs
    rw [Xe5 hs]
    have := ih (a ++ [p]) (by rw [ha]; simp)
    rw [List.length_append, List.length_singleton] at this
    rw [this]
    have e2 : Xdm s (p :: r) = Xdm s r := by simp [Xdm, e]
    rw [e2]
 exact key q.Held [] rfl
theorem Xiq (q : Xah) (s : Int) : Xdg q s = some (Xap q && Xdm s q.Held) := by
 unfold Xdg
 rw [Xep, Xae, Xp0]
 cases h : Xap q with
 | false => rfl
 | true =>
  have hq := Xaq h
  rw [Xg3, Xr5 q s (Xb8 q s) (by omega) (by
   intro i hi
   unfold Xb8
   rw [syA, rqA, wkA]; rfl) (by unfold Xb8; rw [snA]), Xae]
  cases Xdm s q.Held <;> rfl
def Xaz (next : Int) : Nat → List Xaa → Nat
 | _, [] => 0
 | i, p :: r => if p.Seq = Xav next i then (if p.Last = true then i + 1 else Xaz next (i + 1) r) else 0
theorem Xf0 (next : Int) : ∀ (r : List Xaa) (i : Nat), Xaz next i r ≤ i + r.length
 | [], i => by simp [Xaz]
 | p :: r, i => by
  rw [Xaz]
  have := Xf0 next r (i + 1)
  split
  ·
   split
   ·
    simp
   ·
    simp; omega
  ·
   omega
theorem Xqo {n s : Int} {i : Nat} (h1 : 0 ≤ n ∧ n ≤ 65535) (h2 : 0 ≤ s ∧ s ≤ 65535) (h3 : i ≤ 24) : Xan n s = i ↔ s = Xav n i := by
 unfold Xan Xav
 rw [if_pos (show 0 ≤ n ∧ n ≤ 65535 ∧ 0 ≤ s ∧ s ≤ 65535 by omega), if_pos (show 0 ≤ n ∧ n ≤ 65535 ∧ (0 : Int) ≤ (i : Int) ∧ (i : Int) ≤ 65535 by omega)]
 constructor
 ·
  intro h
  split at h
  ·
   omega
  ·
   split at h <;> omega
 ·
  intro h
  split
  ·
   omega
  ·
   split <;> omega
theorem Xnv {n : Int} {i : Nat} (h1 : 0 ≤ n ∧ n ≤ 65535) (h3 : i ≤ 24) : Xav (Xav n i) 1 = Xav n ((i + 1 : Nat) : Int) := by
 unfold Xav
 rw [if_pos (show 0 ≤ n ∧ n ≤ 65535 ∧ (0 : Int) ≤ (i : Int) ∧ (i : Int) ≤ 65535 by omega), if_pos (by omega), if_pos (by omega)]
 omega
theorem Xi7 (q : Xah) (h : Xap q = true) : Xdi q = some (Xaz q.Next 0 q.Held : Int) := by
 have hq := Xaq h
 unfold Xdi
 have key : ∀ (r a : List Xaa), q.Held = a ++ r → loop (Xbf q) (a.length : Int) = some (.ret (Xaz q.Next a.length r : Int)) ∨ loop (Xbf q) (a.length : Int) = some (.out ()) ∧ Xaz q.Next a.length r = 0 := by
  intro r
  induction r with
  | nil =>
   intro a ha
   rw [List.append_nil] at ha
   exact .inr ⟨Xme (by unfold Xbf; rw [Xcj (by rw [ha]; omega)]), rfl⟩
  | cons p r ih =>
   intro a ha
   have hlen : a.length < q.Held.length := by rw [ha]; simp
   have hp : q.Held.getD a.length Xaf = p := by rw [ha]; exact Xeu a p _ r
   have hpk := (Xbj p).1 (hq.2.2.2.2.2.2 p (by rw [ha]; simp))
   have hstep : Xbf q (a.length : Int) = sel (Xan q.Next p.Seq != (a.length : Int)) (some (.done (.ret 0))) (sel p.Last (some (.done (.ret ((a.length + 1 : Nat) : Int)))) (some (.go ((a.length + 1 : Nat) : Int)))) := by
    unfold Xbf
    simp only [Int.toNat_natCast, hp]
    rw [syA, rqA, Xce, Xae, rqA, wkA]
    rfl
   have hg := Xqo (n := q.Next) (s := p.Seq) (i := a.length) (by omega) (by omega) (by omega)
   by_cases e : p.Seq = Xav q.Next a.length
   ·
    rw [Xa2 (by simp; exact hg.2 e)] at hstep
    by_cases e2 : p.Last = true
    ·
     rw [Xa0 e2] at hstep
     left; rw [Xbz hstep, Xaz, if_pos e, if_pos e2]
    ·
     rw [Xa2 (by simpa using e2)] at hstep
     have := ih (a ++ [p]) (by rw [ha]; simp)
     rw [List.length_append, List.length_singleton] at this
     rw [Xe5 hstep, Xaz, if_pos e, if_neg e2]; exact this
   ·
    rw [Xa0 (by simp; exact fun x => e (hg.1 x))] at hstep
    left; rw [Xbz hstep, Xaz, if_neg e]; rfl
 rcases key q.Held [] rfl with e | ⟨e, e2⟩
 ·
  simp only [List.length_nil] at e
  rw [show (0 : Int) = ((0 : Nat) : Int) from rfl, e]; rfl
 ·
  simp only [List.length_nil] at e e2
  rw [show (0 : Int) = ((0 : Nat) : Int) from rfl, e, e2]; rfl
def Xc7 (next : Int) : List Xaa → Nat
 | [] => 0
 | p :: r => if p.First = true ∧ p.Seq ≠ next then 0 else Xc7 next r + 1
theorem Xmp (next : Int) : ∀ r : List Xaa, Xc7 next r ≤ r.length
 | [] => by simp [Xc7]
 | p :: r => by
  rw [Xc7]; have := Xmp next r
  split
  ·
   omega
  ·
   simp; omega
def Xfz (q : Xah) : Int := if Xc7 q.Next q.Held < q.Held.length then (q.Held.getD (Xc7 q.Next q.Held) Xaf).Seq else Xav (q.Held.getD (q.Held.length - 1) Xaf).Seq 1
def Xdb (q : Xah) (w : Int) : Xah × List Xaa × Int :=
 if Xap q = true ∧ 0 ≤ w ∧ w ≤ 20 then
  (if 0 < Xaz q.Next 0 q.Held then (⟨q.Begun, Xav q.Next (Xaz q.Next 0 q.Held), 0, q.Held.drop (Xaz q.Next 0 q.Held), q.Late, q.Far, q.Twice, q.Over, q.Lost⟩, q.Held.take (Xaz q.Next 0 q.Held), 1)
  else if q.Held.length = 0 then (⟨q.Begun, q.Next, 0, q.Held, q.Late, q.Far, q.Twice, q.Over, q.Lost⟩, [], 0)
  else if q.Age < w then (⟨q.Begun, q.Next, q.Age + 1, q.Held, q.Late, q.Far, q.Twice, q.Over, q.Lost⟩, [], 0)
  else (⟨q.Begun, Xfz q, 0, q.Held.drop (Xc7 q.Next q.Held), q.Late, q.Far, q.Twice, q.Over, Xk4 q.Lost⟩, [], 2))
 else (q, [], 0)
theorem Xrh (q : Xah) (hl : q.Held.length ≤ 24) : loop (Xa7 q) 0 = some (Xc7 q.Next q.Held : Int) := by
 have key : ∀ (r a : List Xaa), q.Held = a ++ r → loop (Xa7 q) (a.length : Int) = some ((a.length + Xc7 q.Next r : Nat) : Int) := by
  intro r
  induction r with
  | nil =>
   intro a ha
   rw [List.append_nil] at ha
   refine Xme ?_
   unfold Xa7
   rw [Xcj (by rw [ha]; omega), Xae, Xk7]; rfl
  | cons p r ih =>
   intro a ha
   have hlen : a.length < q.Held.length := by rw [ha]; simp
   have hp : q.Held.getD a.length Xaf = p := by rw [ha]; exact Xeu a p _ r
   have hstep : Xa7 q (a.length : Int) = sel (!(p.First && p.Seq != q.Next)) (some (.go ((a.length + 1 : Nat) : Int))) (some (.done (a.length : Int))) := by
    unfold Xa7
    simp only [Int.toNat_natCast, hp]
    rw [syA, rqA, rqA, rqA, rqA, wkA, Xfs, Xae]
    congr 1
    cases p.First <;> simp
   by_cases e : p.First = true ∧ p.Seq ≠ q.Next
   ·
    rw [Xa2 (by simp [e])] at hstep
    rw [Xbz hstep, Xc7, if_pos e]; rfl
   ·
    rw [Xa0 (by
     rw [Bool.not_eq_true', Bool.and_eq_false_iff]
     by_cases h1 : p.First = true
     ·
      right; simp; exact Classical.byContradiction fun h2 => e ⟨h1, h2⟩
     ·
      left; simpa using h1)] at hstep
    have := ih (a ++ [p]) (by rw [ha]; simp)
    rw [List.length_append, List.length_singleton] at this
    rw [Xe5 hstep, Xc7, if_neg e, this]
    congr 2
    omega
 have := key q.Held [] rfl
 simpa using this
theorem Xjm {α : Type} (l : List α) (k : Nat) : (l.drop k).take (l.length - k) = l.drop k := List.take_of_length_le (by rw [List.length_drop]; omega)
theorem Xh2 (q : Xah) (w : Int) (hl : q.Held.length ≤ 1048576) : Xcc q w = some (Xdb q w) := by
 have hm : maxLen = 9223372036854775807 := rfl
 unfold Xcc Xdb
 rw [Xf2 q hl, Xae, Xep, Xae]
 by_cases h : Xap q = true ∧ 0 ≤ w ∧ w ≤ 20
 ·
  rw [if_pos h, Xa0 h.1, Xbt, Xae, Xae, Xa2 (by simpa using h.2), Xi7 q h.1, Xae]
  have hq := Xaq h.1
  have hr := Xf0 q.Next q.Held 0
  generalize Xaz q.Next 0 q.Held = r at hr ⊢
  simp only [Int.toNat_natCast, Int.toNat_zero, List.drop_zero, List.length_nil, List.nil_append, Nat.zero_add, Nat.sub_zero, Xjm]
  by_cases hr0 : 0 < r
  ·
   rw [if_pos hr0, syA, rqA, Xcy (by simp only [List.length_take]; omega), Xer, Xae, rqA, Xcy (by simp only [List.length_drop]; omega)]
  ·
   rw [if_neg hr0, snA]
   by_cases h0 : q.Held.length = 0
   ·
    rw [if_pos h0, Xa0 (by simp [h0])]
   ·
    rw [if_neg h0, Xa2 (by simpa using h0)]
    by_cases ha : q.Age < w
    ·
     rw [if_pos ha, Xcz ha, wkA]
    ·
     rw [if_neg ha, Xcj ha, Xrh q hq.2.2.1, Xae]
     have hs := Xmp q.Next q.Held
     have hn : Xfz q = if Xc7 q.Next q.Held < q.Held.length then (q.Held.getD (Xc7 q.Next q.Held) Xaf).Seq else Xav (q.Held.getD (q.Held.length - 1) Xaf).Seq 1 := rfl
     generalize Xc7 q.Next q.Held = s at hs hn ⊢
     rw [Xct _ (Xei hq.2.2.2.2.2.1).2.2.2.2]
     simp only [Int.toNat_natCast, Xjm, Xae, hn]
     by_cases hsl : s < q.Held.length
     ·
      rw [syA, rqA, rqA, Xae, rqA, Xcy (by simp only [List.length_drop]; omega), if_pos hsl]
     ·
      rw [snA, wkA, rqA, rqA, Xer, Xae, Xae, rqA, Xcy (by simp only [List.length_drop]; omega), if_neg hsl]
      rw [show ((s : Int) - 1).toNat = q.Held.length - 1 by omega]
 ·
  rw [if_neg h]
  cases hb : Xap q with
  | false => rw [Xk7, Xae, Xg3]
  | true =>
   have h' : ¬ (0 ≤ w ∧ w ≤ 20) := fun e => h ⟨hb, e⟩
   rw [Xg3, Xbt, Xae, Xae, Xa0 (by simp; omega)]
def Xnz (q : Xah) (r : Nat) : Xah × List Xaa × Int := (⟨q.Begun, Xav q.Next r, 0, q.Held.drop r, q.Late, q.Far, q.Twice, q.Over, q.Lost⟩, q.Held.take r, 1)
theorem Xrm (q : Xah) (h : Xap q = true) : loop (Xa4 q q) 0 = some (if 0 < Xaz q.Next 0 q.Held then .ret (Xnz q (Xaz q.Next 0 q.Held)) else .out ()) := by
 have hm : maxLen = 9223372036854775807 := rfl
 have hq := Xaq h
 have key : ∀ (r a : List Xaa), q.Held = a ++ r → loop (Xa4 q q) (a.length : Int) = some (if 0 < Xaz q.Next a.length r then .ret (Xnz q (Xaz q.Next a.length r)) else .out ()) := by
  intro r
  induction r with
  | nil =>
   intro a ha
   rw [List.append_nil] at ha
   refine Xme ?_
   unfold Xa4
   rw [Xcj (by rw [ha]; omega)]; rfl
  | cons p r ih =>
   intro a ha
   have hlen : a.length < q.Held.length := by rw [ha]; simp
   have hp : q.Held.getD a.length Xaf = p := by rw [ha]; exact Xeu a p _ r
   have hstep : Xa4 q q (a.length : Int) = sel (p.Seq != Xav q.Next a.length) (some (.done (.out ()))) (sel p.Last (some (.done (.ret (⟨q.Begun, Xav p.Seq 1, 0, q.Held.drop (a.length + 1), q.Late, q.Far, q.Twice, q.Over, q.Lost⟩, q.Held.take (a.length + 1), 1)))) (some (.go ((a.length + 1 : Nat) : Int)))) := by
    unfold Xa4
    rw [wkA (e := (a.length : Int) + 1)]
    have e1 : ((a.length : Int) + 1).toNat = a.length + 1 := by omega
    simp only [Int.toNat_natCast, hp, e1, Int.toNat_zero, List.drop_zero, List.length_nil, List.nil_append, Nat.zero_add, Nat.sub_zero, Xjm]
    rw [syA, rqA, rqA, Xem, Xae, rqA, Xcy (by simp only [List.length_take]; omega), rqA, Xcy (by simp only [List.length_drop]; omega), Xem, Xae]
    rfl
   by_cases e : p.Seq = Xav q.Next a.length
   ·
    rw [Xa2 (by simpa using e)] at hstep
    by_cases e2 : p.Last = true
    ·
     rw [Xa0 e2] at hstep
     rw [Xbz hstep, Xaz, if_pos e, if_pos e2, if_pos (by omega), e, Xnv (by omega) (by omega)]
     rfl
    ·
     rw [Xa2 (by simpa using e2)] at hstep
     have := ih (a ++ [p]) (by rw [ha]; simp)
     rw [List.length_append, List.length_singleton] at this
     rw [Xe5 hstep, Xaz, if_pos e, if_neg e2, this]
   ·
    rw [Xa0 (by simpa using e)] at hstep
    rw [Xbz hstep, Xaz, if_neg e]; rfl
 exact key q.Held [] rfl
theorem Xrg (q : Xah) (n : Int) (hl : q.Held.length ≤ 24) : loop (Xa5 q n) 0 = some (if Xc7 q.Next q.Held < q.Held.length then (q.Held.getD (Xc7 q.Next q.Held) Xaf).Seq else n, q.Held.drop (Xc7 q.Next q.Held)) := by
 have hm : maxLen = 9223372036854775807 := rfl
 have key : ∀ (r a : List Xaa), q.Held = a ++ r → loop (Xa5 q n) (a.length : Int) = some (if a.length + Xc7 q.Next r < q.Held.length then (q.Held.getD (a.length + Xc7 q.Next r) Xaf).Seq else n, q.Held.drop (a.length + Xc7 q.Next r)) := by
  intro r
  induction r with
  | nil =>
   intro a ha
   rw [List.append_nil] at ha
   refine Xme ?_
   unfold Xa5
   rw [Xcj (by rw [ha]; omega)]
   rw [show Xc7 q.Next [] = 0 from rfl, Nat.add_zero, if_neg (by rw [ha]; omega), List.drop_eq_nil_of_le (by rw [ha]; omega)]
  | cons p r ih =>
   intro a ha
   have hlen : a.length < q.Held.length := by rw [ha]; simp
   have hp : q.Held.getD a.length Xaf = p := by rw [ha]; exact Xeu a p _ r
   have hstep : Xa5 q n (a.length : Int) = sel (p.First && p.Seq != q.Next) (some (.done (p.Seq, q.Held.drop a.length))) (some (.go ((a.length + 1 : Nat) : Int))) := by
    unfold Xa5
    simp only [Int.toNat_natCast, hp, List.length_nil, List.nil_append, Nat.zero_add, Xjm]
    rw [syA, rqA, rqA, Xcy (by simp only [List.length_drop]; omega), wkA, Xhx, Xae]
    rfl
   by_cases e : p.First = true ∧ p.Seq ≠ q.Next
   ·
    rw [Xa0 (by simp [e])] at hstep
    rw [Xbz hstep, Xc7, if_pos e, Nat.add_zero, if_pos hlen, hp]
   ·
    rw [Xa2 (by
     rw [Bool.and_eq_false_iff]
     by_cases h1 : p.First = true
     ·
      right; simp; exact Classical.byContradiction fun h2 => e ⟨h1, h2⟩
     ·
      left; simpa using h1)] at hstep
    have := ih (a ++ [p]) (by rw [ha]; simp)
    rw [List.length_append, List.length_singleton] at this
    rw [Xe5 hstep, Xc7, if_neg e, this, show a.length + 1 + Xc7 q.Next r = a.length + (Xc7 q.Next r + 1) by omega]
 have := key q.Held [] rfl
 simpa using this
theorem Xhq (q : Xah) (w : Int) (hl : q.Held.length ≤ 1048576) : Xc2 q w = some (Xdb q w) := by
 unfold Xc2 Xdb
 rw [Xhs q hl, Xae, Xfy, Xae]
 by_cases h : Xap q = true ∧ 0 ≤ w ∧ w ≤ 20
 ·
  rw [if_pos h, Xa0 h.1, Xbw, Xae, Xae, Xa2 (by simpa using h.2), Xrm q h.1, Xae]
  have hq := Xaq h.1
  by_cases hr0 : 0 < Xaz q.Next 0 q.Held
  ·
   rw [if_pos hr0, if_pos hr0]; rfl
  ·
   rw [if_neg hr0, if_neg hr0]
   simp only
   by_cases h0 : q.Held.length = 0
   ·
    rw [if_pos h0, Xa0 (by simp [h0])]
   ·
    rw [if_neg h0, Xa2 (by simpa using h0)]
    by_cases ha : q.Age < w
    ·
     rw [if_pos ha, Xcz ha, wkA]
    ·
     rw [if_neg ha, Xcj ha, Xjv _ (Xei hq.2.2.2.2.2.1).2.2.2.2, Xae, wkA, rqA, Xem, Xae, Xrg q _ hq.2.2.1, Xae]
     rw [show ((q.Held.length : Int) - 1).toNat = q.Held.length - 1 by omega]
     rfl
 ·
  rw [if_neg h]
  cases hb : Xap q with
  | false => rw [Xk7, Xae, Xg3]
  | true =>
   have h' : ¬ (0 ≤ w ∧ w ≤ 20) := fun e => h ⟨hb, e⟩
   rw [Xg3, Xbw, Xae, Xae, Xa0 (by simp; omega)]
def Xq6 (n g : Int) (p : Xaa) : List Xaa → List Xaa
 | [] => [p]
 | x :: r => if g < Xan n x.Seq then p :: x :: r else x :: Xq6 n g p r
def Xpd (n g : Int) (p : Xaa) : List Xaa → Bool × List Xaa
 | [] => (false, [])
 | x :: r => if g < Xan n x.Seq then (true, p :: x :: r) else ((Xpd n g p r).1, x :: (Xpd n g p r).2)
theorem Xno (n g : Int) (p : Xaa) : ∀ r : List Xaa, Xq6 n g p r = if (Xpd n g p r).1 = true then (Xpd n g p r).2 else (Xpd n g p r).2 ++ [p]
 | [] => rfl
 | x :: r => by
  rw [Xq6, Xpd]
  split
  ·
   rfl
  ·
   rw [Xno n g p r]
   simp only
   split <;> simp
theorem Xpe (n g : Int) (p : Xaa) : ∀ r : List Xaa, (Xpd n g p r).2.length ≤ r.length + 1
 | [] => by simp [Xpd]
 | x :: r => by
  rw [Xpd]
  split
  ·
   simp
  ·
   have := Xpe n g p r; simp; omega
theorem Xpc (n g : Int) (p : Xaa) : ∀ r : List Xaa, (Xq6 n g p r).length = r.length + 1
 | [] => rfl
 | x :: r => by
  rw [Xq6]
  split
  ·
   rfl
  ·
   rw [List.length_cons, Xpc n g p r]; rfl
theorem Xgc (q : Xah) (p : Xaa) (hl : q.Held.length ≤ 24) : Xds q p = some (⟨q.Begun, q.Next, q.Age, Xq6 q.Next (Xan q.Next p.Seq) p q.Held, q.Late, q.Far, q.Twice, q.Over, q.Lost⟩ : Xah) := by
 have hm : maxLen = 9223372036854775807 := rfl
 unfold Xds
 rw [Xce, Xae]
 generalize hg : Xan q.Next p.Seq = g
 have step : ∀ (a : List Xaa) (x : Xaa) (r out : List Xaa) (b : Bool), q.Held = a ++ x :: r → out.length ≤ a.length + 1 → Xbl q p g (b, (a.length : Int), out) = some (.go (if b = true then (true, ((a.length + 1 : Nat) : Int), out ++ [x]) else if g < Xan q.Next x.Seq then (true, ((a.length + 1 : Nat) : Int), out ++ [p] ++ [x]) else (false, ((a.length + 1 : Nat) : Int), out ++ [x]))) := by
  intro a x r out b ha ho
  have hlen : a.length < q.Held.length := by rw [ha]; simp
  have hx : q.Held.getD a.length Xaf = x := by rw [ha]; exact Xeu a x _ r
  unfold Xbl
  simp only [Int.toNat_natCast, hx]
  rw [syA, Xcy (c := 0 ≤ (a.length : Int) ∧ _) (by omega), Xce, Xae, wkA]
  cases b with
  | true => rw [Xg3, Xae, Xk7, Xae, rqA, Xcy (by simp only [List.length_singleton]; omega)]; rfl
  | false =>
   rw [Xk7, Xae, Xre]
   by_cases h : g < Xan q.Next x.Seq
   ·
    rw [if_pos (show Xan q.Next x.Seq > g from h), Xcy (by simp only [List.length_singleton]; omega), Xae, rqA, Xcy (by simp only [List.length_append, List.length_singleton]; omega), if_neg (by decide), if_pos h]; rfl
   ·
    rw [if_neg (show ¬ Xan q.Next x.Seq > g from h), Xae, rqA, Xcy (by simp only [List.length_singleton]; omega), if_neg (by decide), if_neg h]; rfl
 have fin : ∀ (b : Bool) (out : List Xaa), Xbl q p g (b, (q.Held.length : Int), out) = some (.done (b, out)) := by
  intro b out; unfold Xbl; simp only; rw [snA]
 have key1 : ∀ (r a out : List Xaa), q.Held = a ++ r → out.length ≤ a.length + 1 → loop (Xbl q p g) (true, (a.length : Int), out) = some (true, out ++ r) := by
  intro r
  induction r with
  | nil => intro a out ha _; rw [List.append_nil] at ha; rw [← ha, Xbz (fin _ _), List.append_nil]
  | cons x r ih =>
   intro a out ha ho
   rw [Xe5 (step a x r out true ha ho), if_pos rfl]
   have := ih (a ++ [x]) (out ++ [x]) (by rw [ha]; simp) (by simp; omega)
   rw [List.length_append, List.length_singleton] at this
   rw [this]; simp
 have key : ∀ (r a out : List Xaa), q.Held = a ++ r → out.length ≤ a.length → loop (Xbl q p g) (false, (a.length : Int), out) = some ((Xpd q.Next g p r).1, out ++ (Xpd q.Next g p r).2) := by
  intro r
  induction r with
  | nil => intro a out ha _; rw [List.append_nil] at ha; rw [← ha, Xbz (fin _ _)]; simp [Xpd]
  | cons x r ih =>
   intro a out ha ho
   rw [Xe5 (step a x r out false ha (by omega)), if_neg (by decide), Xpd]
   by_cases h : g < Xan q.Next x.Seq
   ·
    rw [if_pos h, if_pos h]
    have := key1 r (a ++ [x]) (out ++ [p] ++ [x]) (by rw [ha]; simp) (by simp; omega)
    rw [List.length_append, List.length_singleton] at this
    rw [this]; simp
   ·
    rw [if_neg h, if_neg h]
    have := ih (a ++ [x]) (out ++ [x]) (by rw [ha]; simp) (by simp; omega)
    rw [List.length_append, List.length_singleton] at this
    rw [this]; simp
 have := key q.Held [] [] rfl (by simp)
 simp only [List.length_nil, List.nil_append] at this
 rw [show (((false : Bool), (0 : Int), ([] : List Xaa))) = (false, ((0 : Nat) : Int), []) from rfl, this, Xae, Xno]
 have hlen := Xpe q.Next g p q.Held
 cases h : (Xpd q.Next g p q.Held).1 with
 | true => rfl
 | false =>
  simp only [Bool.not_false, Xg3]
  rw [Xcy (by simp only [List.length_singleton]; omega)]
  rfl
noncomputable def Xet (q : Xah) : Int := (loop (Xbn q) 0).getD 0
theorem Xlp (q : Xah) (h0 : 0 < q.Held.length) (hl : q.Held.length ≤ 24) : loop (Xbn q) 0 = some (Xet q) ∧ 0 ≤ Xet q ∧ Xet q < q.Held.length := by
 obtain ⟨o, h, h1, h2⟩ := Xfo (f := Xbn q) (fun v => 0 ≤ v ∧ v < q.Held.length) (fun v => q.Held.length - v.toNat) (fun _ o => 0 ≤ o ∧ o < q.Held.length) (by
  intro v ⟨h1, h2⟩
  unfold Xbn
  rw [wkA]
  by_cases hv : v < (q.Held.length : Int) - 1
  ·
   rw [Xcz hv, rqA, Xae, Xp0, wkA]
   cases (q.Held.getD v.toNat Xaf).Last with
   | true => exact .inl ⟨_, rfl, h1, h2⟩
   | false => exact .inr ⟨_, rfl, by omega, by omega, fun _ h => h⟩
  ·
   rw [Xcj hv, Xae, Xk7]
   exact .inl ⟨_, rfl, h1, h2⟩) 0 (by omega)
 unfold Xet; rw [h]; exact ⟨rfl, h1, h2⟩
theorem Xo0 (q : Xah) (h0 : 0 < q.Held.length) (hl : q.Held.length ≤ 24) : 0 ≤ Xet q ∧ Xet q < q.Held.length := (Xlp q h0 hl).2
theorem Xps (q : Xah) (h0 : 0 < q.Held.length) (hl : q.Held.length ≤ 24) : loop (Xbn q) 0 = some (Xet q) := (Xlp q h0 hl).1
theorem Xpt (q : Xah) (h0 : 0 < q.Held.length) (hl : q.Held.length ≤ 24) : loop (Xcp q) 0 = some (Xet q) ∧ 0 ≤ Xet q ∧ Xet q < q.Held.length := by
 refine ⟨?_, Xo0 q h0 hl⟩
 rw [← Xps q h0 hl]
 have : Xbn q = Xcp q := by
  funext v
  unfold Xbn Xcp
  congr 1
  by_cases h : v < Xag .i64 ((q.Held.length : Int) - 1)
  ·
   rw [Xcz h, Xcz h]
   by_cases h2 : 0 ≤ v ∧ v < q.Held.length
   ·
    rw [Xcy h2, Xcy h2, rqA]
   ·
    unfold req; rw [if_neg h2, if_neg h2]
  ·
   rw [Xcj h, Xcj h]
 rw [this]
def Xto (q : Xah) (p : Xaa) : Xah := ⟨q.Begun, q.Next, q.Age, Xq6 q.Next (Xan q.Next p.Seq) p q.Held, q.Late, q.Far, q.Twice, q.Over, q.Lost⟩
noncomputable def Xk1 (q : Xah) : Xah := ⟨q.Begun, Xav (q.Held.getD (Xet q).toNat Xaf).Seq 1, 0, q.Held.drop ((Xet q).toNat + 1), q.Late, q.Far, q.Twice, Xk4 q.Over, q.Lost⟩
noncomputable def qin (q : Xah) (p : Xaa) : Xah × Int :=
 if Xap q = true then
  if Xay p = true then
   if q.Begun = true then
    if Xan q.Next p.Seq ≥ 40 ∨ Xan q.Next p.Seq < -40 then (⟨q.Begun, p.Seq, 0, [p], q.Late, Xk4 q.Far, q.Twice, q.Over, q.Lost⟩, 4)
    else if Xan q.Next p.Seq < 0 then (⟨q.Begun, q.Next, q.Age, q.Held, Xk4 q.Late, q.Far, q.Twice, q.Over, q.Lost⟩, 3)
    else if Xdm p.Seq q.Held = true then (⟨q.Begun, q.Next, q.Age, q.Held, q.Late, q.Far, Xk4 q.Twice, q.Over, q.Lost⟩, 5)
    else if q.Held.length < 24 then (Xto q p, 0)
    else (if 0 ≤ Xan (Xk1 q).Next p.Seq ∧ Xan (Xk1 q).Next p.Seq ≤ 39 then Xto (Xk1 q) p else Xk1 q, 6)
   else (⟨true, p.Seq, 0, [p], 0, 0, 0, 0, 0⟩, 0)
  else (q, 2)
 else (q, 1)
theorem Xkj (q : Xah) (p : Xaa) (hl : q.Held.length ≤ 1048576) : Xd2 q p = some (qin q p) := by
 have hm : maxLen = 9223372036854775807 := rfl
 unfold Xd2 qin
 rw [Xf2 q hl, Xae, Xep, Xae, Xp0]
 cases hok : Xap q with
 | false => rfl
 | true =>
  have hq := Xaq hok
  have hc := Xei hq.2.2.2.2.2.1
  rw [Xg3, if_pos rfl, Xfu, Xae, Xp0]
  cases hpk : Xay p with
  | false => rfl
  | true =>
   rw [Xg3, if_pos rfl, Xp0]
   cases hb : q.Begun with
   | false => rfl
   | true =>
    rw [Xg3, if_pos rfl, Xce, Xae, Xrf, Xae]
    generalize hg : Xan q.Next p.Seq = g
    by_cases h1 : g ≥ 40 ∨ g < -40
    ·
     rw [if_pos h1, Xa0 (by simpa using h1), Xct _ hc.2.1, Xae]
    rw [if_neg h1, Xa2 (by simp; omega)]
    by_cases h2 : g < 0
    ·
     rw [if_pos h2, Xcz h2, Xct _ hc.1, Xae]
    rw [if_neg h2, Xcj h2, Xiq, Xae, hok, Bool.true_and]
    cases h3 : Xdm p.Seq q.Held with
    | true => rw [Xg3, if_pos rfl, Xct _ hc.2.2.1, Xae]
    | false =>
     rw [Xk7, if_neg (by decide)]
     by_cases h4 : q.Held.length < 24
     ·
      rw [if_pos h4, syA, Xgc q p hq.2.2.1, Xae]; unfold Xto; rw [hb]
     rw [if_neg h4, snA]
     obtain ⟨l1, l2, l3⟩ := Xpt q (by omega) hq.2.2.1
     rw [l1, Xae, Xct _ hc.2.2.2.1, Xae, rqA, rqA, Xer, Xae, wkA, rqA, Int.toNat_natCast, show (Xet q + 1).toNat = (Xet q).toNat + 1 by omega, Xjm]
     rw [Xcy (by simp only [List.length_nil, List.length_drop]; omega), Xce, Xae, Xbt, Xae, List.nil_append, Xre]
     have hcut : (⟨true, Xav (q.Held.getD (Xet q).toNat Xaf).Seq 1, 0, q.Held.drop ((Xet q).toNat + 1), q.Late, q.Far, q.Twice, Xk4 q.Over, q.Lost⟩ : Xah) = Xk1 q := by unfold Xk1; rw [hb]
     rw [hcut]
     have hn : Xav (q.Held.getD (Xet q).toNat Xaf).Seq 1 = (Xk1 q).Next := rfl
     rw [hn]
     by_cases h5 : 0 ≤ Xan (Xk1 q).Next p.Seq ∧ Xan (Xk1 q).Next p.Seq ≤ 39
     ·
      rw [if_pos h5, if_pos h5, Xgc (Xk1 q) p (by unfold Xk1; simp only [List.length_drop]; omega), Xae, Xae]; rfl
     ·
      rw [if_neg h5, if_neg h5, Xae]; unfold Xk1; rw [hb]
theorem Xp1 {n a b : Int} (hn : 0 ≤ n ∧ n ≤ 65535) (ha : 0 ≤ a ∧ a ≤ 65535) (hb : 0 ≤ b ∧ b ≤ 65535) (h : Xan n a = Xan n b) : a = b := by
 unfold Xan at h
 rw [if_pos (show 0 ≤ n ∧ n ≤ 65535 ∧ 0 ≤ a ∧ a ≤ 65535 by omega), if_pos (show 0 ≤ n ∧ n ≤ 65535 ∧ 0 ≤ b ∧ b ≤ 65535 by omega)] at h
 repeat' split at h
 all_goals omega
theorem Xeh (a b : Int) : 0 ≤ Xav a b ∧ Xav a b ≤ 65535 := by
 unfold Xav; split <;> omega
theorem Xqp {n y : Int} {k : Nat} (hn : 0 ≤ n ∧ n ≤ 65535) (hy : 0 ≤ y ∧ y ≤ 65535) (h1 : (k : Int) ≤ Xan n y) (h2 : Xan n y < 41) : Xan (Xav n k) y = Xan n y - k := by
 unfold Xan at h1 h2 ⊢
 unfold Xav
 rw [if_pos (show 0 ≤ n ∧ n ≤ 65535 ∧ 0 ≤ y ∧ y ≤ 65535 by omega)] at h1 h2 ⊢
 have hk : (k : Int) ≤ 40 := by
  repeat' split at h1
  all_goals (repeat' split at h2)
  all_goals omega
 rw [if_pos (show 0 ≤ n ∧ n ≤ 65535 ∧ (0 : Int) ≤ (k : Int) ∧ (k : Int) ≤ 65535 by omega), if_pos (by omega)]
 repeat' split at h1
 all_goals (repeat' split at h2)
 all_goals (repeat' split)
 all_goals omega
theorem Xev {n : Int} {k : Nat} (hn : 0 ≤ n ∧ n ≤ 65535) : ∀ {l : List Xaa} {Xda : Int}, (k : Int) - 1 ≤ Xda → Xa9 n Xda l = true → Xa9 (Xav n k) (Xda - k) l = true
 | [], _, _, _ => rfl
 | p :: r, Xda, hl, h => by
  rw [Xa9, Bool.and_eq_true, Bool.and_eq_true, decide_eq_true_eq] at h ⊢
  have hp := (Xbj p).1 h.1.1
  have e := Xqp (k := k) hn (y := p.Seq) (by omega) (by omega) (by omega)
  rw [e]
  exact ⟨⟨h.1.1, by omega⟩, Xev hn (by omega) h.2⟩
theorem Xgj {n : Int} : ∀ {l : List Xaa} {Xda : Int} (k : Nat) (hk : k < l.length), Xa9 n Xda l = true → Xda < Xan n (l.getD k Xaf).Seq ∧ Xa9 n (Xan n (l.getD k Xaf).Seq) (l.drop (k + 1)) = true ∧ Xan n (l.getD k Xaf).Seq < 40
 | [], _, k, hk, _ => by simp at hk
 | p :: r, Xda, 0, _, h => by
  rw [Xa9, Bool.and_eq_true, Bool.and_eq_true, decide_eq_true_eq] at h
  exact ⟨h.1.2.1, h.2, h.1.2.2⟩
 | p :: r, Xda, k + 1, hk, h => by
  rw [Xa9, Bool.and_eq_true, Bool.and_eq_true, decide_eq_true_eq] at h
  obtain ⟨h1, h2, h3⟩ := Xgj (l := r) k (by simpa using hk) h.2
  exact ⟨by rw [List.getD_cons_succ]; omega, by rw [List.getD_cons_succ]; exact h2, by rw [List.getD_cons_succ]; exact h3⟩
theorem Xlz {n : Int} {p : Xaa} {k : Nat} (hn : 0 ≤ n ∧ n ≤ 65535) (hp : Xay p = true) (h : Xan n p.Seq = k) (hk : k ≤ 40) : p.Seq = Xav n k := by
 have h2 := (Xbj p).1 hp
 unfold Xan at h
 unfold Xav
 rw [if_pos (show 0 ≤ n ∧ n ≤ 65535 ∧ 0 ≤ p.Seq ∧ p.Seq ≤ 65535 by omega)] at h
 rw [if_pos (by omega)]
 repeat' split at h
 all_goals omega
theorem Xom {n : Int} {k : Nat} (hn : 0 ≤ n ∧ n ≤ 65535) (hk : k ≤ 40) : Xav (Xav n k) 1 = Xav n ((k + 1 : Nat) : Int) := by
 unfold Xav
 rw [if_pos (show 0 ≤ n ∧ n ≤ 65535 ∧ (0 : Int) ≤ (k : Int) ∧ (k : Int) ≤ 65535 by omega), if_pos (by omega), if_pos (by omega)]
 omega
theorem Xgv {n : Int} (h : cnt n = true) : cnt (Xk4 n) = true := by
 unfold cnt Xk4 at *
 simp only [decide_eq_true_eq] at *
 split <;> omega
theorem Xau {q : Xah} (hb : q.Begun = true) : Xap q = true ↔ (0 ≤ q.Next ∧ q.Next ≤ 65535 ∧ 0 ≤ q.Age ∧ q.Age ≤ 20 ∧ q.Held.length ≤ 24) ∧ Xa9 q.Next (-1) q.Held = true ∧ Xqn q = true := by
 unfold Xap
 rw [if_pos hb, Bool.and_eq_true, Bool.and_eq_true, decide_eq_true_eq]
theorem Xhh {q : Xah} (h1 : cnt q.Late = true) (h2 : cnt q.Far = true) (h3 : cnt q.Twice = true) (h4 : cnt q.Over = true) (h5 : cnt q.Lost = true) : Xqn q = true := by
 unfold Xqn; rw [h1, h2, h3, h4, h5]; rfl
theorem Xlm {p : Xaa} (h : Xay p = true) : Xa9 p.Seq (-1) [p] = true := by
 have h2 := (Xbj p).1 h
 have e : Xan p.Seq p.Seq = 0 := by
  unfold Xan; rw [if_pos (by omega), if_neg (by omega), if_neg (by omega)]; omega
 rw [Xa9, e, h]; rfl
theorem Xln {n g : Int} {p : Xaa} (hp : Xay p = true) (hg : Xan n p.Seq = g) (h40 : g < 40) : ∀ {l : List Xaa} {Xda : Int}, Xda < g → (∀ x ∈ l, Xan n x.Seq ≠ g) → Xa9 n Xda l = true → Xa9 n Xda (Xq6 n g p l) = true
 | [], Xda, hl, _, _ => by
  rw [Xq6, Xa9, hg, hp]; simp [Xa9, hl, h40]
 | x :: r, Xda, hl, hne, h => by
  have h0 := h
  rw [Xa9, Bool.and_eq_true, Bool.and_eq_true, decide_eq_true_eq] at h
  rw [Xq6]
  have h1 := hne x (by simp)
  by_cases e : g < Xan n x.Seq
  ·
   rw [if_pos e, Xa9, hg, Bool.and_eq_true, Bool.and_eq_true, decide_eq_true_eq]
   refine ⟨⟨hp, hl, h40⟩, ?_⟩
   rw [Xa9, Bool.and_eq_true, Bool.and_eq_true, decide_eq_true_eq]
   exact ⟨⟨h.1.1, e, h.1.2.2⟩, h.2⟩
  ·
   rw [if_neg e, Xa9, Bool.and_eq_true, Bool.and_eq_true, decide_eq_true_eq]
   exact ⟨⟨h.1.1, h.1.2⟩, Xln hp hg h40 (by omega) (fun y hy => hne y (by simp [hy])) h.2⟩
theorem Xtx {q : Xah} {p : Xaa} (hn : 0 ≤ q.Next ∧ q.Next ≤ 65535) (hh : ∀ x ∈ q.Held, Xay x = true) (hp : Xay p = true) (hs : Xdm p.Seq q.Held = false) : ∀ x ∈ q.Held, Xan q.Next x.Seq ≠ Xan q.Next p.Seq := by
 intro x hx e
 have h1 := (Xbj x).1 (hh x hx)
 have h2 := (Xbj p).1 hp
 have := Xp1 hn (by omega) (by omega) e
 have : Xdm p.Seq q.Held = true := by
  unfold Xdm; rw [List.any_eq_true]; exact ⟨x, hx, by simpa using this⟩
 rw [hs] at this; cases this
theorem Xq7 {q : Xah} {p : Xaa} (hb : q.Begun = true) (h : Xap q = true) (hp : Xay p = true) (hs : Xdm p.Seq q.Held = false) (hl : q.Held.length < 24) (hg : 0 ≤ Xan q.Next p.Seq ∧ Xan q.Next p.Seq < 40) : Xap (Xto q p) = true := by
 have hq := Xaq h
 have h' := (Xau hb).1 h
 refine (Xau (q := Xto q p) hb).2 ⟨⟨h'.1.1, h'.1.2.1, h'.1.2.2.1, h'.1.2.2.2.1, ?_⟩, ?_, ?_⟩
 ·
  show (Xq6 _ _ _ _).length ≤ 24
  rw [Xpc]; omega
 ·
  exact Xln hp rfl hg.2 (by omega) (Xtx (by omega) hq.2.2.2.2.2.2 hp hs) h'.2.1
 ·
  exact h'.2.2
theorem Xs0 {q : Xah} (hb : q.Begun = true) (h : Xap q = true) (hl : q.Held.length = 24) : Xap (Xk1 q) = true ∧ (Xk1 q).Held.length < 24 := by
 have hq := Xaq h
 have hc := Xei hq.2.2.2.2.2.1
 have h' := (Xau hb).1 h
 obtain ⟨l2, l3⟩ := Xo0 q (by omega) hq.2.2.1
 have hlen : (Xk1 q).Held.length < 24 := by show (q.Held.drop _).length < 24; rw [List.length_drop]; omega
 obtain ⟨d1, d2, d3⟩ := Xgj (Xet q).toNat (by omega) h'.2.1
 have hpk := hq.2.2.2.2.2.2 (q.Held.getD (Xet q).toNat Xaf) (by rw [Xjq _ _ (by omega)]; exact List.getElem_mem _)
 refine ⟨(Xau (q := Xk1 q) hb).2 ⟨⟨(Xeh _ _).1, (Xeh _ _).2, by show (0 : Int) ≤ 0; decide, by show (0 : Int) ≤ 20; decide, by omega⟩, ?_, Xhh (q := Xk1 q) hc.1 hc.2.1 hc.2.2.1 (Xgv hc.2.2.2.1) hc.2.2.2.2⟩, hlen⟩
 show Xa9 (Xav (q.Held.getD (Xet q).toNat Xaf).Seq 1) (-1) (q.Held.drop ((Xet q).toNat + 1)) = true
 generalize q.Held.getD (Xet q).toNat Xaf = x at d1 d2 d3 hpk ⊢
 obtain ⟨k, hk⟩ : ∃ k : Nat, Xan q.Next x.Seq = k := ⟨(Xan q.Next x.Seq).toNat, by omega⟩
 rw [Xlz (by omega) hpk hk (by omega), Xom (by omega) (by omega)]
 rw [hk] at d2
 have := Xev (k := k + 1) (by omega) (by omega) d2
 rw [show ((k : Int)) - ((k + 1 : Nat) : Int) = -1 by omega] at this
 exact this
theorem Xt0 {q : Xah} {p : Xaa} (h : Xap q = true) : Xap (qin q p).1 = true := by
 have hq := Xaq h
 have hc := Xei hq.2.2.2.2.2.1
 unfold qin
 rw [if_pos h]
 by_cases hp : Xay p = true
 ·
  rw [if_pos hp]
  have hpk := (Xbj p).1 hp
  by_cases hb : q.Begun = true
  ·
   rw [if_pos hb]
   have h' := (Xau hb).1 h
   by_cases h1 : Xan q.Next p.Seq ≥ 40 ∨ Xan q.Next p.Seq < -40
   ·
    rw [if_pos h1]
    exact (Xau (q := ⟨q.Begun, p.Seq, 0, [p], q.Late, Xk4 q.Far, q.Twice, q.Over, q.Lost⟩) hb).2 ⟨⟨by simp only; omega, by simp only; omega, Int.le_refl _, (by decide : (0 : Int) ≤ 20), by simp⟩, Xlm hp, Xhh hc.1 (Xgv hc.2.1) hc.2.2.1 hc.2.2.2.1 hc.2.2.2.2⟩
   rw [if_neg h1]
   by_cases h2 : Xan q.Next p.Seq < 0
   ·
    rw [if_pos h2]
    exact (Xau (q := ⟨q.Begun, q.Next, q.Age, q.Held, Xk4 q.Late, q.Far, q.Twice, q.Over, q.Lost⟩) hb).2 ⟨h'.1, h'.2.1, Xhh (Xgv hc.1) hc.2.1 hc.2.2.1 hc.2.2.2.1 hc.2.2.2.2⟩
   rw [if_neg h2]
   by_cases h3 : Xdm p.Seq q.Held = true
   ·
    rw [if_pos h3]
    exact (Xau (q := ⟨q.Begun, q.Next, q.Age, q.Held, q.Late, q.Far, Xk4 q.Twice, q.Over, q.Lost⟩) hb).2 ⟨h'.1, h'.2.1, Xhh hc.1 hc.2.1 (Xgv hc.2.2.1) hc.2.2.2.1 hc.2.2.2.2⟩
   rw [if_neg h3]
   have h3' : Xdm p.Seq q.Held = false := by simpa using h3
   by_cases h4 : q.Held.length < 24
   ·
    rw [if_pos h4]
    exact Xq7 hb h hp h3' h4 (by omega)
   rw [if_neg h4]
   obtain ⟨c1, c2⟩ := Xs0 hb h (by omega)
   by_cases h5 : 0 ≤ Xan (Xk1 q).Next p.Seq ∧ Xan (Xk1 q).Next p.Seq ≤ 39
   ·
    rw [if_pos h5]
    have hs : Xdm p.Seq (Xk1 q).Held = false := by
     rw [Bool.eq_false_iff] at h3' ⊢
     intro e; apply h3'
     unfold Xdm at e ⊢
     rw [List.any_eq_true] at e ⊢
     obtain ⟨x, hx, e⟩ := e
     exact ⟨x, List.mem_of_mem_drop hx, e⟩
    exact Xq7 hb c1 hp hs c2 (by omega)
   ·
    rw [if_neg h5]; exact c1
  ·
   rw [if_neg hb]
   exact (Xau (q := ⟨true, p.Seq, 0, [p], 0, 0, 0, 0, 0⟩) rfl).2 ⟨⟨by simp only; omega, by simp only; omega, Int.le_refl _, (by decide : (0 : Int) ≤ 20), by simp⟩, Xlm hp, rfl⟩
 ·
  rw [if_neg hp]; exact h
theorem Xnq {n : Int} (hn : 0 ≤ n ∧ n ≤ 65535) : ∀ {l : List Xaa} {i : Nat}, i + l.length ≤ 24 → Xa9 n ((i : Int) - 1) l = true → 0 < Xaz n i l → i < Xaz n i l ∧ Xa9 n ((Xaz n i l : Int) - 1) (l.drop (Xaz n i l - i)) = true
 | [], i, _, _, h => by simp [Xaz] at h
 | p :: r, i, hi, h, h0 => by
  rw [Xaz] at h0 ⊢
  rw [Xa9, Bool.and_eq_true, Bool.and_eq_true, decide_eq_true_eq] at h
  have hp := (Xbj p).1 h.1.1
  have hl : (p :: r).length = r.length + 1 := rfl
  by_cases e : p.Seq = Xav n i
  ·
   rw [if_pos e] at h0 ⊢
   have hg : Xan n p.Seq = i := (Xqo (by omega) (by omega) (by omega)).2 e
   rw [hg] at h
   by_cases e2 : p.Last = true
   ·
    rw [if_pos e2]
    refine ⟨by omega, ?_⟩
    rw [show i + 1 - i = 1 by omega, List.drop_succ_cons, List.drop_zero, show ((i + 1 : Nat) : Int) - 1 = i by omega]
    exact h.2
   ·
    rw [if_neg e2] at h0 ⊢
    obtain ⟨a, b⟩ := Xnq hn (l := r) (i := i + 1) (by omega) (by rw [show ((i + 1 : Nat) : Int) - 1 = i by omega]; exact h.2) h0
    refine ⟨by omega, ?_⟩
    rw [show Xaz n (i + 1) r - i = (Xaz n (i + 1) r - (i + 1)) + 1 by omega, List.drop_succ_cons]
    exact b
  ·
   rw [if_neg e] at h0; omega
theorem Xpf {q : Xah} {w : Int} (h : Xap q = true) : Xap (Xdb q w).1 = true := by
 have hq := Xaq h
 have hc := Xei hq.2.2.2.2.2.1
 unfold Xdb
 by_cases hw : Xap q = true ∧ 0 ≤ w ∧ w ≤ 20
 ·
  rw [if_pos hw]
  cases hb : q.Begun with
  | false =>
   have h2 := h
   unfold Xap at h2
   rw [if_neg (by simp [hb]), decide_eq_true_eq] at h2
   obtain ⟨z1, z2, z3, z4, z5, z6, z7, z8⟩ := h2
   have hh : q.Held = [] := List.length_eq_zero_iff.1 z3
   rw [hh, if_neg (by simp [Xaz]), if_pos (show ([] : List Xaa).length = 0 from rfl)]
   unfold Xap
   rw [if_neg (by simp), decide_eq_true_eq]
   exact ⟨z1, rfl, rfl, z4, z5, z6, z7, z8⟩
  | true =>
   have h' := (Xau hb).1 h
   have hr := Xf0 q.Next q.Held 0
   by_cases h0 : 0 < Xaz q.Next 0 q.Held
   ·
    rw [if_pos h0]
    obtain ⟨_, b⟩ := Xnq (by omega) (by omega) (by exact h'.2.1) h0
    have := Xev (k := Xaz q.Next 0 q.Held) (by omega) (by omega) b
    rw [Nat.sub_zero, show ((Xaz q.Next 0 q.Held : Int)) - 1 - (Xaz q.Next 0 q.Held : Int) = -1 by omega] at this
    exact (Xau rfl).2 ⟨⟨(Xeh _ _).1, (Xeh _ _).2, Int.le_refl _, (by decide : (0 : Int) ≤ 20), by simp only [List.length_drop]; omega⟩, this, Xhh hc.1 hc.2.1 hc.2.2.1 hc.2.2.2.1 hc.2.2.2.2⟩
   rw [if_neg h0]
   by_cases h1 : q.Held.length = 0
   ·
    rw [if_pos h1]
    exact (Xau rfl).2 ⟨⟨h'.1.1, h'.1.2.1, Int.le_refl _, (by decide : (0 : Int) ≤ 20), h'.1.2.2.2.2⟩, h'.2.1, h'.2.2⟩
   rw [if_neg h1]
   by_cases h2 : q.Age < w
   ·
    rw [if_pos h2]
    exact (Xau rfl).2 ⟨⟨h'.1.1, h'.1.2.1, by simp only; omega, by simp only; omega, h'.1.2.2.2.2⟩, h'.2.1, h'.2.2⟩
   rw [if_neg h2]
   have hcn : Xqn (⟨true, Xfz q, 0, q.Held.drop (Xc7 q.Next q.Held), q.Late, q.Far, q.Twice, q.Over, Xk4 q.Lost⟩ : Xah) = true := Xhh hc.1 hc.2.1 hc.2.2.1 hc.2.2.2.1 (Xgv hc.2.2.2.2)
   have hs := Xmp q.Next q.Held
   unfold Xfz at hcn ⊢
   generalize Xc7 q.Next q.Held = s at hs hcn ⊢
   by_cases h3 : s < q.Held.length
   ·
    rw [if_pos h3] at hcn ⊢
    have hpk := hq.2.2.2.2.2.2 (q.Held.getD s Xaf) (by rw [Xjq _ _ h3]; exact List.getElem_mem _)
    have hpk' := (Xbj _).1 hpk
    obtain ⟨d1, d2, d3⟩ := Xgj s h3 h'.2.1
    obtain ⟨k, hk⟩ : ∃ k : Nat, Xan q.Next (q.Held.getD s Xaf).Seq = k := ⟨(Xan q.Next (q.Held.getD s Xaf).Seq).toNat, by omega⟩
    have hd : Xa9 q.Next ((k : Int) - 1) (q.Held.drop s) = true := by
     rw [Xs1 _ s h3 Xaf, Xa9, Bool.and_eq_true, Bool.and_eq_true, decide_eq_true_eq]
     exact ⟨⟨hpk, by omega, by omega⟩, d2⟩
    have := Xev (k := k) (by omega) (by omega) hd
    rw [show (k : Int) - 1 - k = -1 by omega, ← Xlz (by omega) hpk hk (by omega)] at this
    exact (Xau rfl).2 ⟨⟨by simp only; omega, by simp only; omega, Int.le_refl _, (by decide : (0 : Int) ≤ 20), by simp only [List.length_drop]; omega⟩, this, hcn⟩
   ·
    rw [if_neg h3] at hcn ⊢
    have hd : q.Held.drop s = [] := List.drop_eq_nil_of_le (by omega)
    rw [hd] at hcn ⊢
    exact (Xau rfl).2 ⟨⟨(Xeh _ _).1, (Xeh _ _).2, Int.le_refl _, (by decide : (0 : Int) ≤ 20), by simp⟩, rfl, hcn⟩
 ·
  rw [if_neg hw]; exact h
theorem Xe1 (c : Xas) (l : List Int) (hc : Xdy c) (hl : 0 < l.length) (hl2 : l.length ≤ 1000) : ∃ x c', Xbp c l = some (x, c') ∧ x ∈ l ∧ Xdy c' := by
 unfold Xbp
 obtain ⟨x, c', e, a, b, _, h⟩ := Xax c l.length hc
 have b' := b (by omega)
 rw [e, Xae]
 simp only
 rw [rqA]
 refine ⟨_, _, rfl, ?_, h⟩
 rw [Xjq l _ (by omega)]; exact List.getElem_mem _
theorem Xkp (c : Xas) (n : Int) (hc : Xdy c) (h0 : 0 ≤ n) (h1 : n ≤ 5000) : ∃ s c', Xd3 c n = some (s, c') ∧ (s.size : Int) = n ∧ Xdy c' := by
 have hm : maxLen = 9223372036854775807 := rfl
 unfold Xd3
 rw [snA, Xae]
 obtain ⟨o, h, h2, h3⟩ := Xfo (f := Xdh n) (fun v => 0 ≤ v.1 ∧ v.1 ≤ n ∧ Xdy ⟨v.2.1, v.2.2.1, v.2.2.2.1⟩ ∧ (v.2.2.2.2.length : Int) = v.1) (fun v => (n - v.1).toNat) (fun _ o => (o.1.length : Int) = n ∧ Xdy ⟨o.2.1, o.2.2.1, o.2.2.2⟩) (by
  intro ⟨i, b, j, h, l⟩ ⟨h1, h2, h3, h4⟩
  unfold Xdh
  simp only at h1 h2 h3 h4 ⊢
  by_cases hi : i < n
  ·
   obtain ⟨x, c', ex, x0, x1, hx⟩ := Xb1 _ h3
   rw [Xcz hi, ex, Xae, Xcy (by rw [hm]; simp only [List.length_singleton]; omega)]
   refine .inr ⟨_, rfl, ?_, ?_, fun _ h => h⟩
   ·
    rw [wkA]
    exact ⟨by omega, by omega, hx, by simp; omega⟩
   ·
    rw [wkA]; omega
  ·
   rw [Xcj hi]
   exact .inl ⟨_, rfl, by simp only; omega, h3⟩) (0, c.b_, c.i_, c.h_, []) ⟨by simp, h0, hc, by simp⟩
 rw [h, Xae]
 exact ⟨_, _, rfl, by rw [strOfNums_size]; exact h2, h3⟩
theorem Xld (c : Xas) (hc : Xdy c) : ∃ x c', Xes c = some (x, c') ∧ 0 ≤ x ∧ x ≤ 65535 ∧ Xdy c' := by
 unfold Xes
 obtain ⟨b, c1, e1, h1⟩ := Xb3 c 3 hc
 rw [e1, Xae]
 cases b with
 | true =>
  obtain ⟨x, c2, e2, hx, h2⟩ := Xe1 c1 [0, 65535, 65530, 65520, 32767, 32768] h1 (by decide) (by decide)
  simp only [Xg3]
  rw [e2, Xae]
  refine ⟨_, _, rfl, ?_, ?_, h2⟩
  all_goals (simp only [List.mem_cons, List.not_mem_nil, or_false] at hx; simp only; omega)
 | false =>
  obtain ⟨x, c2, e2, a, b, _, h2⟩ := Xax c1 65536 h1
  have b' := b (by omega)
  simp only [Xk7]
  rw [e2, Xae]
  exact ⟨_, _, rfl, a, by simp only; omega, h2⟩
theorem Xff (c : Xas) (n : Int) (hc : Xdy c) (h0 : 0 ≤ n) (h1 : n ≤ 65535) : ∃ p c', Xcf c n = some (p, c') ∧ Xay p = true ∧ Xdy c' := by
 unfold Xcf
 obtain ⟨x, c1, e1, a1, b1, _, k1⟩ := Xax c 14 hc
 have b1' := b1 (by omega)
 rw [e1, Xae]
 obtain ⟨y, c2, e2, a2, b2, _, k2⟩ := Xax c1 16 k1
 simp only
 rw [e2, Xae]
 have key : ∃ d c3, (sel (y == 0) (bnd (Xar c2 100) fun q4 => some (Xag .i64 (q4.1 - 50), q4.2.b_, q4.2.i_, q4.2.h_)) (sel (y == 1) (bnd (Xbp c2 ([39, 40, (-40), (-41), (-1)])) fun q5 => some (q5.1, q5.2.b_, q5.2.i_, q5.2.h_)) (some (Xag .i64 (x - 2), c2.b_, c2.i_, c2.h_)))) = some (d, c3) ∧ -50 ≤ d ∧ d ≤ 50 ∧ Xdy ⟨c3.1, c3.2.1, c3.2.2⟩ := by
  by_cases hy : y = 0
  ·
   rw [Xa0 (by simpa using hy)]
   obtain ⟨z, c3, e3, a3, b3, _, k3⟩ := Xax c2 100 k2
   have b3' := b3 (by omega)
   rw [e3, Xae, wkA]
   exact ⟨_, _, rfl, by simp only; omega, by simp only; omega, k3⟩
  ·
   rw [Xa2 (by simpa using hy)]
   by_cases hy1 : y = 1
   ·
    rw [Xa0 (by simpa using hy1)]
    obtain ⟨z, c3, e3, hz, k3⟩ := Xe1 c2 [39, 40, (-40), (-41), (-1)] k2 (by decide) (by decide)
    rw [e3, Xae]
    refine ⟨_, _, rfl, ?_, ?_, k3⟩
    all_goals (simp only [List.mem_cons, List.not_mem_nil, or_false] at hz; simp only; omega)
   ·
    rw [Xa2 (by simpa using hy1), wkA]
    exact ⟨_, _, rfl, by omega, by omega, k2⟩
 obtain ⟨d, c3, e3, d0, d1, k3⟩ := key
 simp only at e3 ⊢
 rw [e3, Xae, Xcy (by decide)]
 obtain ⟨f1, c4, e4, k4⟩ := Xb3 _ 3 k3
 rw [e4, Xae]
 obtain ⟨f2, c5, e5, k5⟩ := Xb3 _ 3 k4
 simp only
 rw [e5, Xae]
 obtain ⟨z, c6, e6, a6, b6, _, k6⟩ := Xax _ 3 k5
 have b6' := b6 (by omega)
 simp only
 rw [e6, Xae, wkA (e := 1 + z)]
 obtain ⟨s, c7, e7, a7, k7⟩ := Xkp _ (1 + z) k6 (by omega) (by omega)
 simp only
 rw [e7, Xae, wkA (e := n + 65536), wkA, Xeg (by omega)]
 refine ⟨_, _, rfl, ?_, k7⟩
 rw [Xbj]
 simp only
 omega
theorem Xs8 (n : Int) (h : cnt n = true) : Xk4 n ≤ n + 1 := by
 unfold cnt at h; unfold Xk4
 simp only [decide_eq_true_eq] at h
 split <;> omega
theorem Xq8 {q : Xah} {p : Xaa} (h : Xap q = true) : (qin q p).1.Twice ≤ q.Twice + 1 := by
 have hc := Xei (Xaq h).2.2.2.2.2.1
 have h1 := Xs8 _ hc.2.2.1
 have h2 : 0 ≤ q.Twice := by have := hc.2.2.1; unfold cnt at this; simp only [decide_eq_true_eq] at this; omega
 unfold qin Xto Xk1
 repeat' split
 all_goals (simp only; omega)
theorem Xoj (q : Xah) (w : Int) : (Xdb q w).1.Twice = q.Twice := by
 unfold Xdb
 repeat' split
 all_goals rfl
theorem Xi9 (c : Xas) (hc : Xdy c) : ∃ q c', Xdj c = some (q, c') ∧ Xap q = true ∧ q.Twice ≤ 60 ∧ Xdy c' := by
 unfold Xdj
 obtain ⟨n, c1, e1, a1, b1, k1⟩ := Xld c hc
 rw [e1, Xae]
 obtain ⟨m, c2, e2, a2, b2, _, k2⟩ := Xax c1 30 k1
 have b2' := b2 (by omega)
 simp only
 rw [e2, Xae]
 obtain ⟨f, c3, e3, k3⟩ := Xb3 c2 6 k2
 simp only
 rw [e3, Xae]
 have key : ∃ t : Int × List Int × Int × Int, sel f (some (Xag .i64 (m + 30), c3.b_, c3.i_, c3.h_)) (some (m, c3.b_, c3.i_, c3.h_)) = some t ∧ 0 ≤ t.1 ∧ t.1 ≤ 59 ∧ Xdy ⟨t.2.1, t.2.2.1, t.2.2.2⟩ := by
  rw [wkA]
  cases f with
  | true => exact ⟨_, rfl, by simp only; omega, by simp only; omega, k3⟩
  | false => exact ⟨_, rfl, by simp only; omega, by simp only; omega, k3⟩
 obtain ⟨t, e4, t0, t1, k4⟩ := key
 simp only at e4 ⊢
 rw [e4, Xae]
 obtain ⟨o, h, h2, h3, h4⟩ := Xfo (f := Xc6 t) (fun v => 0 ≤ v.1 ∧ v.1 ≤ 65535 ∧ 0 ≤ v.2.1 ∧ v.2.1 ≤ 59 ∧ Xdy ⟨v.2.2.1, v.2.2.2.1, v.2.2.2.2.1⟩ ∧ Xap (⟨v.2.2.2.2.2.1, v.2.2.2.2.2.2.1, v.2.2.2.2.2.2.2.1, v.2.2.2.2.2.2.2.2.2.2.2.2.2, v.2.2.2.2.2.2.2.2.1, v.2.2.2.2.2.2.2.2.2.1, v.2.2.2.2.2.2.2.2.2.2.1, v.2.2.2.2.2.2.2.2.2.2.2.1, v.2.2.2.2.2.2.2.2.2.2.2.2.1⟩ : Xah) = true ∧ v.2.2.2.2.2.2.2.2.2.2.1 ≤ v.2.1) (fun v => 60 - v.2.1.toNat)
  (fun _ o => Xap (⟨o.1, o.2.1, o.2.2.1, o.2.2.2.2.2.2.2.2.2.2.2, o.2.2.2.1, o.2.2.2.2.1, o.2.2.2.2.2.1, o.2.2.2.2.2.2.1, o.2.2.2.2.2.2.2.1⟩ : Xah) = true ∧ o.2.2.2.2.2.1 ≤ 60 ∧ Xdy ⟨o.2.2.2.2.2.2.2.2.1, o.2.2.2.2.2.2.2.2.2.1, o.2.2.2.2.2.2.2.2.2.2.1⟩) (by
  intro ⟨nx, i, cb, ci, ch, qb, qn, qa, ql, qf, qt, qo, qs, qh⟩ ⟨h1, h2, h3, h4, h5, h6, h7⟩
  unfold Xc6
  simp only at h1 h2 h3 h4 h5 h6 h7 ⊢
  by_cases hi : i < t.1
  ·
   rw [Xcz hi]
   obtain ⟨p, c5, e5, hp, k5⟩ := Xff _ nx h5 h1 h2
   rw [e5, Xae]
   simp only
   have hl := (Xaq h6).2.2.1
   rw [Xkj _ p (by omega), Xae]
   generalize hq1 : (⟨qb, qn, qa, qh, ql, qf, qt, qo, qs⟩ : Xah) = q1 at h6 hl ⊢
   have ht1 : q1.Twice = qt := by rw [← hq1]
   have ok2 := Xt0 (p := p) h6
   have tw2 := Xq8 (p := p) h6
   generalize qin q1 p = r2 at ok2 tw2 ⊢
   obtain ⟨q2, r⟩ := r2
   simp only at ok2 tw2 ⊢
   obtain ⟨f1, c6, e6, k6⟩ := Xb3 _ 12 k5
   rw [e6, Xae]
   simp only
   have step : ∃ (c7 : Xas) (q3 : Xah), (sel f1 (bnd (Xar c6 3) fun q32 => bnd (Xcc q2 q32.1) fun q33 => some (q32.2.b_, q32.2.i_, q32.2.h_, q33.1.Begun, q33.1.Next, q33.1.Age, q33.1.Late, q33.1.Far, q33.1.Twice, q33.1.Over, q33.1.Lost, q33.1.Held)) (some (c6.b_, c6.i_, c6.h_, q2.Begun, q2.Next, q2.Age, q2.Late, q2.Far, q2.Twice, q2.Over, q2.Lost, q2.Held))) = some (c7.b_, c7.i_, c7.h_, q3.Begun, q3.Next, q3.Age, q3.Late, q3.Far, q3.Twice, q3.Over, q3.Lost, q3.Held) ∧ Xdy c7 ∧ Xap q3 = true ∧ q3.Twice ≤ i + 1 := by
    cases f1 with
    | true =>
     obtain ⟨w, c7, e7, _, _, _, k7⟩ := Xax c6 3 k6
     rw [Xg3, e7, Xae]
     simp only
     have := (Xaq ok2).2.2.1
     rw [Xh2 q2 w (by omega), Xae]
     exact ⟨c7, (Xdb q2 w).1, rfl, k7, Xpf ok2, by rw [Xoj]; omega⟩
    | false => exact ⟨c6, q2, rfl, k6, ok2, by omega⟩
   obtain ⟨c7, q3, e7, k7, ok3, tw3⟩ := step
   rw [e7, Xae]
   simp only
   have hn3 := Xaq ok3
   have nxt : ∃ n2, sel q3.Begun (some q3.Next) (some nx) = some n2 ∧ 0 ≤ n2 ∧ n2 ≤ 65535 := by
    cases q3.Begun with
    | true => exact ⟨_, rfl, hn3.1, hn3.2.1⟩
    | false => exact ⟨_, rfl, h1, h2⟩
   obtain ⟨n2, e8, g0, g1⟩ := nxt
   rw [e8, Xae]
   obtain ⟨f2, c8, e9, k8⟩ := Xb3 _ 9 k7
   rw [show (⟨c7.b_, c7.i_, c7.h_⟩ : Xas) = c7 from rfl, e9, Xae, Xcy (by decide), wkA (e := n2 + 20), Xeg (by omega), wkA (e := i + 1)]
   right
   cases f2 with
   | true =>
    rw [Xg3, Xae]
    exact ⟨_, rfl, ⟨by simp only; omega, by simp only; omega, by simp only; omega, by simp only; omega, k8, ok3, tw3⟩, by simp only; omega, fun _ h => h⟩
   | false =>
    rw [Xk7, Xae]
    exact ⟨_, rfl, ⟨g0, g1, by simp only; omega, by simp only; omega, k8, ok3, tw3⟩, by simp only; omega, fun _ h => h⟩
  ·
   rw [Xcj hi]
   exact .inl ⟨_, rfl, h6, by simp only; omega, h5⟩) (n, 0, t.2.1, t.2.2.1, t.2.2.2, false, 0, 0, 0, 0, 0, 0, 0, []) ⟨a1, b1, by simp, by simp, k4, rfl, by simp⟩
 rw [h, Xae]
 exact ⟨_, _, rfl, h2, h3, h4⟩
theorem Xhy (b : List Int) (hb : b.length ≤ 1048576) : ∃ q l, Xcb b = some (q, l) ∧ Xap q = true ∧ q.Twice ≤ 60 ∧ l.length ≤ 10 ∧ ∀ p ∈ l, Xay p = true := by
 have hm : maxLen = 9223372036854775807 := rfl
 unfold Xcb
 obtain ⟨c, e, hc⟩ := Xga b hb
 obtain ⟨q, c1, e1, hq, ht, hc1⟩ := Xi9 c hc
 rw [e, Xae, e1, Xae]
 have hqn := Xaq hq
 obtain ⟨o, h, h2, h3⟩ := Xfo (f := Xcv (q, c1)) (fun v => 0 ≤ v.1 ∧ v.1 ≤ 10 ∧ Xdy ⟨v.2.1, v.2.2.1, v.2.2.2.1⟩ ∧ (v.2.2.2.2.length : Int) = v.1 ∧ ∀ p ∈ v.2.2.2.2, Xay p = true) (fun v => 10 - v.1.toNat) (fun _ o => o.length ≤ 10 ∧ ∀ p ∈ o, Xay p = true) (by
  intro ⟨i, b, j, h, l⟩ ⟨h1, h2, h3, h4, h5⟩
  unfold Xcv
  simp only at h1 h2 h3 h4 h5 ⊢
  obtain ⟨x, c', ex, x0, x1, _, hx⟩ := Xax _ 9 h3
  have x1' := x1 (by omega)
  rw [ex, Xae]
  simp only
  rw [wkA (e := 1 + x)]
  by_cases hi : i < 1 + x
  ·
   obtain ⟨p, c2, ey, hp, hy⟩ := Xff c' q.Next hx hqn.1 hqn.2.1
   rw [Xcz hi, ey, Xae, Xcy (by rw [hm]; simp only [List.length_singleton]; omega)]
   refine .inr ⟨_, rfl, ?_, ?_, fun _ h => h⟩
   ·
    rw [wkA]
    refine ⟨by omega, by omega, hy, by simp; omega, ?_⟩
    intro y hy
    rcases List.mem_append.1 hy with hy | hy
    ·
     exact h5 y hy
    ·
     rw [List.mem_singleton.1 hy]; exact hp
   ·
    rw [wkA]; omega
  ·
   rw [Xcj hi]
   exact .inl ⟨_, rfl, by omega, h5⟩) (0, c1.b_, c1.i_, c1.h_, []) ⟨by simp, by simp, hc1, by simp, by simp⟩
 simp only
 rw [h, Xae]
 exact ⟨_, _, rfl, hq, ht, h2, h3⟩
theorem Xj3 {q : Xah} {w : Int} (h : Xap q = true ∧ 0 ≤ w ∧ w ≤ 20) (h0 : 0 < Xaz q.Next 0 q.Held) : Xdb q w = (⟨q.Begun, Xav q.Next (Xaz q.Next 0 q.Held), 0, q.Held.drop (Xaz q.Next 0 q.Held), q.Late, q.Far, q.Twice, q.Over, q.Lost⟩, q.Held.take (Xaz q.Next 0 q.Held), 1) := by
 unfold Xdb; rw [if_pos h, if_pos h0]
theorem Xj2 {q : Xah} {w : Int} (h : Xap q = true ∧ 0 ≤ w ∧ w ≤ 20) (h0 : ¬ 0 < Xaz q.Next 0 q.Held) (h1 : q.Held.length = 0) : Xdb q w = (⟨q.Begun, q.Next, 0, q.Held, q.Late, q.Far, q.Twice, q.Over, q.Lost⟩, [], 0) := by
 unfold Xdb; rw [if_pos h, if_neg h0, if_pos h1]
theorem Xlt {q : Xah} {w : Int} (h : Xap q = true ∧ 0 ≤ w ∧ w ≤ 20) (h0 : ¬ 0 < Xaz q.Next 0 q.Held) (h1 : ¬ q.Held.length = 0) (h2 : q.Age < w) : Xdb q w = (⟨q.Begun, q.Next, q.Age + 1, q.Held, q.Late, q.Far, q.Twice, q.Over, q.Lost⟩, [], 0) := by
 unfold Xdb; rw [if_pos h, if_neg h0, if_neg h1, if_pos h2]
theorem Xls {q : Xah} {w : Int} (h : Xap q = true ∧ 0 ≤ w ∧ w ≤ 20) (h0 : ¬ 0 < Xaz q.Next 0 q.Held) (h1 : ¬ q.Held.length = 0) (h2 : ¬ q.Age < w) : Xdb q w = (⟨q.Begun, Xfz q, 0, q.Held.drop (Xc7 q.Next q.Held), q.Late, q.Far, q.Twice, q.Over, Xk4 q.Lost⟩, [], 2) := by
 unfold Xdb; rw [if_pos h, if_neg h0, if_neg h1, if_neg h2]
theorem Xq9 {q : Xah} {w : Int} (h : ¬ (Xap q = true ∧ 0 ≤ w ∧ w ≤ 20)) : Xdb q w = (q, [], 0) := by
 unfold Xdb; rw [if_neg h]
def Xb4 (q : Xah) : Int := match q.Held with
 | [] => 0
 | p :: _ => if p.First = true ∧ p.Seq ≠ q.Next then 1 else 0
def Xdf (q : Xah) (w : Int) : Int := if q.Held.length = 0 then 0 else (w + 1) * (2 * (q.Held.length - 1) + Xb4 q) + (if q.Age < w then w - q.Age else 0) + 1
theorem Xk5 (q : Xah) (w : Int) (h : Xap q = true) (hw : 0 ≤ w ∧ w ≤ 20) (hh : q.Held.length ≠ 0) : Xdf (Xdb q w).1 w + 1 ≤ Xdf q w ∧ (Xdb q w).1.Begun = q.Begun := by
 have hq := Xaq h
 have ho : ∀ q : Xah, 0 ≤ Xb4 q ∧ Xb4 q ≤ 1 := fun q => by
  unfold Xb4
  split
  ·
   omega
  ·
   split <;> omega
 unfold Xdf
 rw [if_neg hh]
 have hr := Xf0 q.Next q.Held 0
 have b0 := ho q
 have bound : ∀ q' : Xah, q'.Age = 0 → (q'.Held.length : Int) ≤ q.Held.length - 1 → (if q'.Held.length = 0 then 0 else (w + 1) * (2 * ((q'.Held.length : Int) - 1) + Xb4 q') + (if q'.Age < w then w - q'.Age else 0) + 1) ≤ (w + 1) * (2 * ((q.Held.length : Int) - 1)) := by
  intro q' ha hl
  have b1 := ho q'
  have e1 : (w + 1) * (2 * ((q'.Held.length : Int) - 1) + Xb4 q') ≤ (w + 1) * (2 * ((q'.Held.length : Int) - 1) + 1) := Int.mul_le_mul_of_nonneg_left (by omega) (by omega)
  have e2 : (w + 1) * (2 * ((q'.Held.length : Int) - 1) + 1) + (w + 1) = (w + 1) * (2 * (q'.Held.length : Int)) := by
   have : (w + 1) * (2 * ((q'.Held.length : Int) - 1) + 1 + 1) = (w + 1) * (2 * ((q'.Held.length : Int) - 1) + 1) + (w + 1) := by rw [Int.mul_add, Int.mul_one]
   rw [← this]; congr 1; omega
  have e3 : (w + 1) * (2 * (q'.Held.length : Int)) ≤ (w + 1) * (2 * ((q.Held.length : Int) - 1)) := Int.mul_le_mul_of_nonneg_left (by omega) (by omega)
  have e4 : (0 : Int) ≤ (w + 1) * (2 * ((q.Held.length : Int) - 1)) := Int.mul_nonneg (by omega) (by omega)
  rw [ha]
  split
  ·
   exact e4
  ·
   split <;> omega
 have e5 : (w + 1) * (2 * ((q.Held.length : Int) - 1)) ≤ (w + 1) * (2 * ((q.Held.length : Int) - 1) + Xb4 q) := Int.mul_le_mul_of_nonneg_left (by omega) (by omega)
 by_cases h0 : 0 < Xaz q.Next 0 q.Held
 ·
  rw [Xj3 ⟨h, hw⟩ h0]
  refine ⟨?_, rfl⟩
  have := bound ⟨q.Begun, Xav q.Next (Xaz q.Next 0 q.Held), 0, q.Held.drop (Xaz q.Next 0 q.Held), q.Late, q.Far, q.Twice, q.Over, q.Lost⟩ rfl (by simp only [List.length_drop]; omega)
  simp only at this ⊢
  split <;> omega
 by_cases h2 : q.Age < w
 ·
  rw [Xlt ⟨h, hw⟩ h0 hh h2, if_pos h2]
  refine ⟨?_, rfl⟩
  simp only
  rw [if_neg hh]
  have : Xb4 (⟨q.Begun, q.Next, q.Age + 1, q.Held, q.Late, q.Far, q.Twice, q.Over, q.Lost⟩ : Xah) = Xb4 q := rfl
  rw [this]
  split <;> omega
 rw [Xls ⟨h, hw⟩ h0 hh h2, if_neg h2]
 refine ⟨?_, rfl⟩
 by_cases hs : Xc7 q.Next q.Held = 0
 ·
  have hn : Xfz q = (q.Held.getD 0 Xaf).Seq := by unfold Xfz; rw [hs, if_pos (by omega)]
  rw [hn, hs, List.drop_zero]
  simp only
  rw [if_neg hh]
  obtain ⟨p, r, hpr⟩ : ∃ p r, q.Held = p :: r := by
   cases hc : q.Held with
   | nil => rw [hc] at hh; simp at hh
   | cons p r => exact ⟨p, r, rfl⟩
  have o1 : Xb4 q = 1 := by
   rw [hpr, Xc7] at hs
   unfold Xb4; rw [hpr]
   simp only
   split at hs
   ·
    rename_i hc; rw [if_pos hc]
   ·
    omega
  have o2 : Xb4 (⟨q.Begun, (q.Held.getD 0 Xaf).Seq, 0, q.Held, q.Late, q.Far, q.Twice, q.Over, Xk4 q.Lost⟩ : Xah) = 0 := by
   unfold Xb4; rw [hpr]; simp
  rw [o1, o2]
  have e6 : (w + 1) * (2 * ((q.Held.length : Int) - 1) + 1) = (w + 1) * (2 * ((q.Held.length : Int) - 1)) + (w + 1) := by rw [Int.mul_add, Int.mul_one]
  rw [e6, Int.add_zero]
  split <;> omega
 ·
  have := bound ⟨q.Begun, Xfz q, 0, q.Held.drop (Xc7 q.Next q.Held), q.Late, q.Far, q.Twice, q.Over, Xk4 q.Lost⟩ rfl (by simp only [List.length_drop]; omega)
  simp only at this ⊢
  split <;> omega
theorem Xqy (q : Xah) (w : Int) (h : Xap q = true) (hw : 0 ≤ w ∧ w ≤ 20) (hh : q.Held.length = 0) : (Xdb q w).1.Held.length = 0 ∧ (Xdb q w).1.Begun = q.Begun := by
 have hc : q.Held = [] := List.length_eq_zero_iff.1 hh
 rw [Xj2 ⟨h, hw⟩ (by rw [hc]; simp [Xaz]) hh]
 exact ⟨hh, rfl⟩
theorem Xsf (q : Xah) (w : Int) (h : Xap q = true) : ((Xdb q w).2.2 = 1 ∧ 0 < (Xdb q w).2.1.length ∨ (Xdb q w).2.2 ≠ 1 ∧ (Xdb q w).2.1.length = 0) ∧ (Xdb q w).1.Held.length + (Xdb q w).2.1.length ≤ q.Held.length := by
 have hr := Xf0 q.Next q.Held 0
 by_cases hw : Xap q = true ∧ 0 ≤ w ∧ w ≤ 20
 ·
  by_cases h0 : 0 < Xaz q.Next 0 q.Held
  ·
   rw [Xj3 hw h0]
   refine ⟨.inl ⟨rfl, ?_⟩, ?_⟩
   ·
    simp only [List.length_take]; omega
   ·
    simp only [List.length_take, List.length_drop]; omega
  by_cases h1 : q.Held.length = 0
  ·
   rw [Xj2 hw h0 h1]
   exact ⟨.inr ⟨by simp, rfl⟩, Nat.le_refl _⟩
  by_cases h2 : q.Age < w
  ·
   rw [Xlt hw h0 h1 h2]
   exact ⟨.inr ⟨by simp, rfl⟩, Nat.le_refl _⟩
  ·
   rw [Xls hw h0 h1 h2]
   exact ⟨.inr ⟨by simp, rfl⟩, by simp only [List.length_drop, List.length_nil]; omega⟩
 ·
  rw [Xq9 hw]
  exact ⟨.inr ⟨by simp, rfl⟩, Nat.le_refl _⟩
theorem FnGivenUp {p0 : List Int} (h0 : p0.length ≤ maxLen ∧ ∀ y ∈ p0, (Lit.int .u8 y).wf = true) : Xdu p0 = some true := by
 unfold Xdu
 rw [Xod, Xae]
 by_cases hb : (p0.length : Int) > 1048576
 ·
  rw [Xcz hb]
 rw [Xcj hb]
 obtain ⟨q, l, e1, hq, ht, hl, hlp⟩ := Xhy p0 (by omega)
 obtain ⟨p, e2, hp, hp2⟩ := Xg5 p0 (by omega)
 rw [e1, Xae, e2, Xae, rqA, Xcy (by rw [hp]; decide), Xcy (by decide)]
 have g0 : 0 ≤ p.getD 0 0 := by rw [Xjq p 0 (by omega)]; exact (hp2 _ (List.getElem_mem _)).1
 obtain ⟨w, hw, w0, w1⟩ : ∃ w, (p.getD ((0 : Int).toNat) 0).tmod 3 = w ∧ 0 ≤ w ∧ w ≤ 2 := by
  rw [Int.toNat_zero, Xeg g0]; exact ⟨_, rfl, by omega, by omega⟩
 obtain ⟨o, h, h2⟩ := Xfo (f := Xcu p) (fun v => 0 ≤ v.1 ∧ v.1 ≤ 48 * (w + 1) + 1 ∧ Xap (⟨v.2.1, v.2.2.1, v.2.2.2.1, v.2.2.2.2.2.2.2.2.2, v.2.2.2.2.1, v.2.2.2.2.2.1, v.2.2.2.2.2.2.1, v.2.2.2.2.2.2.2.1, v.2.2.2.2.2.2.2.2.1⟩ : Xah) = true ∧ v.2.1 = q.Begun ∧
   (v.2.2.2.2.2.2.2.2.2.length ≠ 0 → Xdf (⟨v.2.1, v.2.2.1, v.2.2.2.1, v.2.2.2.2.2.2.2.2.2, v.2.2.2.2.1, v.2.2.2.2.2.1, v.2.2.2.2.2.2.1, v.2.2.2.2.2.2.2.1, v.2.2.2.2.2.2.2.2.1⟩ : Xah) w + v.1 ≤ 48 * (w + 1))) (fun v => 200 - v.1.toNat)
   (fun _ o => ∃ t, o = .out t ∧ t.1 = q.Begun ∧ t.2.2.2.2.2.2.2.2.length = 0) (by
  intro ⟨i, qb, qn, qa, ql, qf, qt, qo, qs, qh⟩ ⟨h1, h2, h3, h4, h5⟩
  unfold Xcu
  simp only at h1 h2 h3 h4 h5 ⊢
  rw [hw, wkA (e := w + 1), wkA (e := 2 * (w + 1)), wkA (e := 2 * (w + 1) * 24), wkA]
  have hl : qh.length ≤ 24 := (Xaq h3).2.2.1
  by_cases hi : i < 2 * (w + 1) * 24 + 1
  ·
   rw [Xcz hi, Xhq _ w (by simp only; omega), Xae]
   have ok := Xpf (w := w) h3
   have tk := Xsf _ w h3
   have ld := fun hh => Xk5 _ w h3 ⟨w0, by omega⟩ hh
   have l0 := fun hh => Xqy _ w h3 ⟨w0, by omega⟩ hh
   simp only at tk ld l0
   generalize (⟨qb, qn, qa, qh, ql, qf, qt, qo, qs⟩ : Xah) = q1 at h3 h5 ok tk ld l0 ⊢
   generalize Xdb q1 w = r at ok tk ld l0 ⊢
   obtain ⟨q2, out, what⟩ := r
   simp only at ok tk ld l0 ⊢
   have hl2 := (Xaq ok).2.2.1
   rw [wkA (e := (q2.Held.length : Int) + out.length), wkA (e := i + 1)]
   have e9 : (sel (what == 1) (sel ((out.length : Int) == 0) (some true) (sel (what != 1) (sel (decide ((out.length : Int) > 0)) (some true) (sel (decide ((q2.Held.length : Int) + out.length > (qh.length : Int))) (some true) (bnd (Xa1 q2) fun q22 => some (!q22)))) (sel (decide ((q2.Held.length : Int) + out.length > (qh.length : Int))) (some true) (bnd (Xa1 q2) fun q23 => some (!q23))))) (sel (what != 1) (sel (decide ((out.length : Int) > 0)) (some true) (sel (decide ((q2.Held.length : Int) + out.length > (qh.length : Int))) (some true) (bnd (Xa1 q2) fun q24 => some (!q24)))) (sel (decide ((q2.Held.length : Int) + out.length > (qh.length : Int))) (some true) (bnd (Xa1 q2) fun q25 => some (!q25))))) = some false := by
    rw [Xfy, ok, Xae, Xcj (show ¬ ((q2.Held.length : Int) + out.length > (qh.length : Int)) by omega)]
    rcases tk.1 with ⟨t1, t2⟩ | ⟨t1, t2⟩
    ·
     rw [Xa0 (by simpa using t1), Xa2 (by simp only [beq_eq_false_iff_ne, ne_eq]; omega), Xa2 (by simpa using t1)]; rfl
    ·
     rw [Xa2 (by simpa using t1), Xa0 (by simpa using t1), snA]; rfl
   rw [e9, Xae, Xk7]
   right
   refine ⟨_, rfl, ⟨by simp only; omega, by simp only; omega, ok, ?_, ?_⟩, by simp only; omega, fun _ h => h⟩
   ·
    simp only
    by_cases hh : qh.length = 0
    ·
     rw [(l0 hh).2]; exact h4
    ·
     rw [(ld hh).2]; exact h4
   ·
    simp only
    intro hne
    by_cases hh : qh.length = 0
    ·
     exact absurd (l0 hh).1 hne
    ·
     have a := (ld hh).1
     have b := h5 hh
     show Xdf q2 w + (i + 1) ≤ _
     omega
  ·
   rw [Xcj hi]
   refine .inl ⟨_, rfl, _, rfl, h4, ?_⟩
   simp only
   refine Classical.byContradiction fun hne => ?_
   have b := h5 hne
   have : 0 ≤ Xdf (⟨qb, qn, qa, qh, ql, qf, qt, qo, qs⟩ : Xah) w := by
    unfold Xdf
    split
    ·
     exact Int.le_refl _
    ·
     have ho : 0 ≤ Xb4 (⟨qb, qn, qa, qh, ql, qf, qt, qo, qs⟩ : Xah) := by
      unfold Xb4
      split
      ·
       omega
      ·
       split <;> omega
     have : 0 ≤ (w + 1) * (2 * (((⟨qb, qn, qa, qh, ql, qf, qt, qo, qs⟩ : Xah).Held.length : Int) - 1) + Xb4 (⟨qb, qn, qa, qh, ql, qf, qt, qo, qs⟩ : Xah)) := Int.mul_nonneg (by omega) (by simp only at *; omega)
     split <;> omega
   omega) (0, q.Begun, q.Next, q.Age, q.Late, q.Far, q.Twice, q.Over, q.Lost, q.Held) ⟨by simp, by simp only; omega, hq, rfl, by
   intro hh
   simp only at hh ⊢
   have hqh := Xaq hq
   have ho : Xb4 q ≤ 1 := by
      unfold Xb4
      split
      ·
       omega
      ·
       split <;> omega
   show Xdf q w + 0 ≤ _
   unfold Xdf
   rw [if_neg hh]
   have e1 : (w + 1) * (2 * ((q.Held.length : Int) - 1) + Xb4 q) ≤ (w + 1) * (2 * ((24 : Int) - 1) + 1) := Int.mul_le_mul_of_nonneg_left (by omega) (by omega)
   split <;> omega⟩
 rw [h, Xae]
 obtain ⟨t, rfl, t1, t2⟩ := h2
 simp only
 rw [Xae, Xa0 (by simp [t2]), Xae, t1, beq_self_eq_true]
end Go.Proofs.Ytlebkepfhdjnmaa.A.Pure
