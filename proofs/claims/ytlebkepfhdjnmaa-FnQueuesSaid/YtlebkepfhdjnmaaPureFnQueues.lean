/- The pure statement of the law FnQueues: over numbers, texts and lists alone, what the law computes is true. Conditions: the sizes of what a machine holds. -/
import Derived.Test.YtlebkepfhdjnmaaDFnQueues
namespace Go.Proofs.Ytlebkepfhdjnmaa.A.Pure
open Go Go.Proofs Go.Proofs.YtlebkepfhdjnmaaAL Go.RowKit
set_option linter.unusedVariables false
set_option linter.unusedSimpArgs false
set_option maxHeartbeats 1000000
theorem Xaf {α β : Type} (a : α) (f : α → Option β) : bnd (some a) f = f a := rfl
theorem Xfg {β : Type} (x y : β) : sel true x y = x := rfl
theorem Xg8 {β : Type} (x y : β) : sel false x y = y := rfl
theorem Xl3 {β : Type} (b : Bool) (x y : β) : sel (!b) x y = sel b y x := by cases b <;> rfl
theorem Xiy (b x : Bool) : sel b (some x) (some false) = some (b && x) := by cases b <;> rfl
theorem Xqs (b x : Bool) : sel b (some true) (some x) = some (b || x) := by cases b <;> rfl
theorem Xgk (b x : Bool) : sel b (some x) (some true) = some (!b || x) := by cases b <;> rfl
theorem Xrb {β : Type} (p : Prop) [Decidable p] (x y : β) : sel (decide p) x y = if p then x else y := by
 by_cases h : p <;> simp [h, sel]
theorem Xa1 {β : Type} {b : Bool} {x y : β} (h : b = true) : sel b x y = x := by subst h; rfl
theorem Xa0 {β : Type} {b : Bool} {x y : β} (h : b = false) : sel b x y = y := by subst h; rfl
theorem Xcx {β : Type} {p : Prop} [Decidable p] {x y : β} (h : p) : sel (decide p) x y = x := by simp [h, sel]
theorem Xck {β : Type} {p : Prop} [Decidable p] {x y : β} (h : ¬ p) : sel (decide p) x y = y := by simp [h, sel]
theorem Xci {β : Type} {c : Prop} [Decidable c] {k : Option β} (h : c) : req c k = k := if_pos h
theorem wk {e : Int} (h1 : -9223372036854775808 ≤ e) (h2 : e ≤ 9223372036854775807) : Xaj .i64 e = e := by
 show wrap64 e = e
 unfold wrap64; omega
theorem rqA {β : Type} {c : Prop} [Decidable c] {k : Option β} (h : c := by omega) : req c k = k := Xci h
theorem syA {β : Type} {c : Prop} [Decidable c] {x y : β} (h : c := by omega) : sel (decide c) x y = x := Xcx h
theorem snA {β : Type} {c : Prop} [Decidable c] {x y : β} (h : ¬ c := by omega) : sel (decide c) x y = y := Xck h
theorem wkA {e : Int} (h1 : -9223372036854775808 ≤ e := by omega) (h2 : e ≤ 9223372036854775807 := by omega) : Xaj .i64 e = e := wk h1 h2
theorem Xr9 : maxLen = 9223372036854775807 := rfl
theorem Xek {a b : Int} (h : 0 ≤ a) : Int.tmod a b = a % b := Int.tmod_eq_emod_of_nonneg h
theorem Xud {P : Nat → Prop} (n : Nat) (h0 : P n) (hs : ∀ i, i < n → P (i + 1) → P i) : ∀ i, i ≤ n → P i := by
 intro i hi
 obtain ⟨k, rfl⟩ : ∃ k, n = i + k := ⟨n - i, by omega⟩
 clear hi
 induction k generalizing i with
 | zero => exact h0
 | succ k ih =>
  refine hs i (by omega) ?_
  exact ih (i + 1) (by rw [show i + 1 + k = i + (k + 1) by omega]; exact h0) (fun j hj => hs j (by omega))
theorem lgo {V O : Type} {f : V → Option (Lp V O)} {x y : V} {r : Option O} (h : f x = some (.go y)) (k : loop f y = r) : loop f x = r := by rw [Xez h]; exact k
theorem Xl1 {V O : Type} {f : V → Option (Lp V O)} {x : V} {o : O} (h : f x = some (.done o)) : loop f x = some o := Xbz h
theorem Xgf {V O : Type} {f : V → Option (Lp V O)} (I : V → Prop) (m : V → Nat) (Q : V → O → Prop) (h : ∀ v, I v → (∃ o, f v = some (.done o) ∧ Q v o) ∨ ∃ v', f v = some (.go v') ∧ I v' ∧ m v' < m v ∧ ∀ o, Q v' o → Q v o) : ∀ v, I v → ∃ o, loop f v = some o ∧ Q v o := by
 intro v
 generalize hn : m v = n
 induction n using Nat.strongRecOn generalizing v with
 | _ n ih =>
  intro hv
  rcases h v hv with ⟨o, h1, h2⟩ | ⟨v', h1, h2, h3, h4⟩
  ·
   exact ⟨o, Xbz h1, h2⟩
  ·
   obtain ⟨o, h5, h6⟩ := ih (m v') (by omega) v' rfl h2
   exact ⟨o, by rw [Xez h1]; exact h5, h4 o h6⟩
theorem Xkx {α : Type} (l : List α) (i : Nat) (h : i < l.length) (d : α) : l.getD i d = l[i] := by
 simp [List.getD_eq_getElem?_getD, List.getElem?_eq_getElem h]
theorem Xue {α : Type} (l : List α) (i : Nat) (h : i < l.length) (d : α) : l.drop i = l.getD i d :: l.drop (i + 1) := by
 rw [List.drop_eq_getElem_cons h, Xkx l i h]
theorem Xbs (a b c : Int) : Xbx a b c = some (decide (b ≤ a ∧ a ≤ c)) := by
 unfold Xbx
 by_cases h : b ≤ a <;> simp [bnd, sel, h]
theorem Xb8 (a b c : Int) : Xbe a b c = some (decide (b ≤ a ∧ a ≤ c)) := by
 unfold Xbe
 by_cases h : b ≤ a <;> simp [bnd, sel, h]
theorem Xdk (a : Int) : Xbg a = some (decide (0 ≤ a ∧ a ≤ 65535)) := by
 unfold Xbg; rw [Xbs]; rfl
theorem Xe6 {α : Type} (a : List α) (x d : α) (b : List α) : (a ++ x :: b).getD a.length d = x := by
 induction a with
 | nil => rfl
 | cons z a ih => simp
theorem Xsn {f : Int → Option (Lp Int (Ou Unit Bool))} (n : Nat) (h : ∀ i : Nat, i < n → f i = some (.go ((i + 1 : Nat) : Int))) (h0 : f n = some (.done (.out ()))) : loop f 0 = some (.out ()) :=
 Xud (P := fun i => loop f (i : Int) = some (.out ())) n (Xbz h0) (fun i hi ih => by rw [Xez (h i hi)]; exact ih) 0 (by omega)
theorem Xm1 (y : Int) : 0 ≤ IntKind.wrap .i64 (BitVec.ofInt (IntKind.bits .i64) y &&& BitVec.ofInt (IntKind.bits .i64) 255).toNat ∧ IntKind.wrap .i64 (BitVec.ofInt (IntKind.bits .i64) y &&& BitVec.ofInt (IntKind.bits .i64) 255).toNat ≤ 255 := by
 have h : (BitVec.ofInt (IntKind.bits .i64) y &&& BitVec.ofInt (IntKind.bits .i64) 255).toNat ≤ 255 := by
  rw [BitVec.toNat_and]
  exact Nat.le_trans Nat.and_le_right (by decide)
 generalize (BitVec.ofInt (IntKind.bits .i64) y &&& BitVec.ofInt (IntKind.bits .i64) 255).toNat = n at h ⊢
 rw [← Xif, wkA]
 omega
def Xel (c : Xat) : Prop := c.b_.length ≤ 1048576 ∧ 0 ≤ c.i_
theorem Xhb (b : List Int) (hb : b.length ≤ 1048576) : ∃ c, Xee b = some c ∧ Xel c := by
 unfold Xee
 obtain ⟨o, h, _⟩ := Xgf (f := Xej b) (fun v => 0 ≤ v.2) (fun v => b.length - v.2.toNat) (fun _ _ => True) (by
  intro ⟨h, i⟩ hi
  unfold Xej
  simp only [Xiy, Xaf] at hi ⊢
  by_cases h1 : i < b.length ∧ i < 4000
  ·
   rw [Xa1 (by simp; exact h1), Xci ⟨hi, h1.1⟩]
   refine .inr ⟨_, rfl, ?_, ?_, fun _ _ => trivial⟩
   ·
    simp only; rw [wkA]; omega
   ·
    simp only; rw [wkA]; omega
  ·
   rw [Xa0 (by simp; omega)]
   exact .inl ⟨_, rfl, trivial⟩) (Xaj .i64 (94701 + (b.length : Int)), 0) (by simp)
 rw [h]
 exact ⟨_, rfl, hb, by simp⟩
theorem Xcf (c : Xat) (hc : Xel c) : ∃ x c', Xbj c = some (x, c') ∧ 0 ≤ x ∧ x ≤ 255 ∧ Xel c' := by
 unfold Xbj
 rw [Xci (by decide), Xci (by decide)]
 obtain ⟨h1, h2⟩ := hc
 by_cases h : c.i_ < c.b_.length
 ·
  rw [Xcx h, Xci ⟨h2, h⟩, Xaf]
  refine ⟨_, _, rfl, (Xm1 _).1, (Xm1 _).2, h1, ?_⟩
  simp only; rw [wkA]; omega
 ·
  rw [Xck h, Xaf]
  exact ⟨_, _, rfl, (Xm1 _).1, (Xm1 _).2, h1, h2⟩
theorem Xay (c : Xat) (n : Int) (hc : Xel c) : ∃ x c', Xar c n = some (x, c') ∧ 0 ≤ x ∧ (0 < n → x < n) ∧ (n ≤ 0 → x = 0) ∧ Xel c' := by
 unfold Xar
 by_cases h0 : n ≤ 0
 ·
  rw [Xcx h0]; exact ⟨_, _, rfl, by omega, fun h => by omega, fun _ => rfl, hc⟩
 ·
  rw [Xck h0]
  obtain ⟨x, c1, e1, a1, b1, hc1⟩ := Xcf c hc
  by_cases h1 : n ≤ 256
  ·
   rw [Xcx h1, e1, Xaf, rqA]
   refine ⟨_, _, rfl, ?_, fun _ => ?_, fun h => by omega, hc1⟩
   ·
    simp only; rw [Xek a1]; exact Int.emod_nonneg _ (by omega)
   ·
    simp only; rw [Xek a1]; exact Int.emod_lt_of_pos _ (by omega)
  ·
   obtain ⟨y, c2, e2, a2, b2, hc2⟩ := Xcf c1 hc1
   obtain ⟨z, c3, e3, a3, b3, hc3⟩ := Xcf c2 hc2
   obtain ⟨u, c4, e4, a4, b4, hc4⟩ := Xcf c3 hc3
   rw [Xck h1, e1, Xaf]
   simp only
   rw [e2, Xaf]
   simp only
   rw [e3, Xaf]
   simp only
   rw [e4, Xaf, rqA]
   simp only
   rw [wkA (e := x * 16777216), wkA (e := y * 65536), wkA (e := z * 256), wkA (e := x * 16777216 + y * 65536), wkA (e := x * 16777216 + y * 65536 + z * 256), wkA, Xek (by omega)]
   exact ⟨_, _, rfl, Int.emod_nonneg _ (by omega), fun _ => Int.emod_lt_of_pos _ (by omega), fun h => by omega, hc4⟩
theorem Xch (c : Xat) (n : Int) (hc : Xel c) : ∃ x c', Xbv c n = some (x, c') ∧ Xel c' := by
 unfold Xbv
 obtain ⟨x, c', e, _, _, _, h⟩ := Xay c n hc
 rw [e, Xaf]; exact ⟨_, _, rfl, h⟩
theorem Xpf (l : List Int) : Xkk l = some (decide ((l.length : Int) > 1048576)) := rfl
theorem Xh7 (b : List Int) (hb : b.length ≤ 1048576) : ∃ l, Xc4 b = some l ∧ l.length = 12 ∧ ∀ x ∈ l, 0 ≤ x ∧ x < 10000 := by
 unfold Xc4
 obtain ⟨c, e, hc⟩ := Xhb b hb
 obtain ⟨x, c1, e1, _, _, hc1⟩ := Xcf c hc
 rw [e, Xaf, e1, Xaf]
 obtain ⟨o, h, h2⟩ := Xgf (f := Xcy) (fun v => 0 ≤ v.1 ∧ v.1 ≤ 12 ∧ Xel ⟨v.2.1, v.2.2.1, v.2.2.2.1⟩ ∧ (v.2.2.2.2.length : Int) = v.1 ∧ ∀ x ∈ v.2.2.2.2, 0 ≤ x ∧ x < 10000) (fun v => 12 - v.1.toNat) (fun _ o => o.length = 12 ∧ ∀ x ∈ o, 0 ≤ x ∧ x < 10000) (by
  intro ⟨i, b, j, h, l⟩ ⟨h1, h2, h3, h4, h5⟩
  unfold Xcy
  simp only at h1 h2 h3 h4 h5 ⊢
  by_cases hi : i < 12
  ·
   obtain ⟨x, c', ex, x0, x1, _, hx⟩ := Xay _ 10000 h3
   rw [Xcx hi, ex, Xaf, Xci (by rw [Xr9]; simp only [List.length_singleton]; omega)]
   refine .inr ⟨_, rfl, ?_, ?_, fun _ h => h⟩
   ·
    rw [wkA]
    refine ⟨by omega, by omega, hx, by simp; omega, ?_⟩
    intro y hy
    rcases List.mem_append.1 hy with hy | hy
    ·
     exact h5 y hy
    ·
     rw [List.mem_singleton.1 hy]; exact ⟨x0, x1 (by omega)⟩
   ·
    rw [wkA]; omega
  ·
   rw [Xck hi]
   exact .inl ⟨_, rfl, by omega, h5⟩) (0, c1.b_, c1.i_, c1.h_, []) ⟨by simp, by simp, hc1, by simp, by simp⟩
 rw [h]
 exact ⟨_, rfl, h2⟩
def Xo9 (n a b : Int) : Int := if b < a ∨ n < a then a else if n > b then b else n
def Xaw (a b : Int) : Int := if 0 ≤ a ∧ a ≤ 65535 ∧ 0 ≤ b ∧ b ≤ 65535 then (a + b) % 65536 else 0
theorem Xdy (a b : Int) : Xcj a b = some (Xaw a b) := by
 unfold Xcj Xaw
 simp only [Xdk, Xaf, Xgk]
 by_cases h : 0 ≤ a ∧ a ≤ 65535 ∧ 0 ≤ b ∧ b ≤ 65535
 ·
  rw [if_pos h, Xa0 (by simp; omega), Xci (by decide), wkA, Xek (by omega)]
 ·
  rw [if_neg h, Xa1 (by simp; omega)]
theorem Xfe (a b : Int) : Xc7 a b = some (Xaw a b) := by
 unfold Xc7 Xaw
 simp only [Xb8, Xaf, Xgk]
 by_cases h : 0 ≤ a ∧ a ≤ 65535 ∧ 0 ≤ b ∧ b ≤ 65535
 ·
  rw [if_pos h, Xa0 (by simp; omega), Xci (by decide), wkA, Xek (by omega)]
 ·
  rw [if_neg h, Xa1 (by simp; omega)]
def Xak (a b : Int) : Int := if 0 ≤ a ∧ a ≤ 65535 ∧ 0 ≤ b ∧ b ≤ 65535 then (if b - a > 32767 then b - a - 65536 else if b - a < -32768 then b - a + 65536 else b - a) else 0
theorem Xdi (a b : Int) : Xcl a b = some (Xak a b) := by
 unfold Xcl Xak
 simp only [Xdk, Xaf, Xgk]
 by_cases h : 0 ≤ a ∧ a ≤ 65535 ∧ 0 ≤ b ∧ b ≤ 65535
 ·
  rw [if_pos h, Xa0 (by simp; omega), Xci (by decide), wkA (e := b - a), wkA (e := b - a + 65536), Xek (by omega), wkA, Xrb]
  repeat' split
  all_goals (simp only [Xaf]; congr 1; omega)
 ·
  rw [if_neg h, Xa1 (by simp; omega)]
theorem Xcv (a b : Int) : Xcb a b = some (Xak a b) := by
 unfold Xcb Xak
 simp only [Xb8, Xaf, Xgk]
 by_cases h : 0 ≤ a ∧ a ≤ 65535 ∧ 0 ≤ b ∧ b ≤ 65535
 ·
  rw [if_pos h, Xa0 (by simp; omega), wkA (e := b - a), wkA]
  simp only [Xrb]
  by_cases h1 : b - a > 32767
  ·
   rw [if_pos h1, if_pos h1, Xaf, if_neg (by omega), Xaf]
  ·
   rw [if_neg h1, if_neg h1, Xaf]
   by_cases h2 : b - a < -32768
   ·
    rw [if_pos h2, if_pos h2, Xaf, wkA]
   ·
    rw [if_neg h2, if_neg h2, Xaf]
 ·
  rw [if_neg h, Xa1 (by simp; omega)]
def Xas (p : Xaa) : Bool := decide (0 ≤ p.Seq ∧ p.Seq ≤ 65535 ∧ 1 ≤ p.Bytes.size ∧ p.Bytes.size ≤ 400)
theorem Xa2 (p : Xaa) : Xas p = true ↔ 0 ≤ p.Seq ∧ p.Seq ≤ 65535 ∧ 1 ≤ p.Bytes.size ∧ p.Bytes.size ≤ 400 := by simp [Xas]
theorem Xgm (p : Xaa) : Xdb p = some (Xas p) := by
 unfold Xdb Xas
 simp only [Xdk, Xbs, Xaf, Xiy]
 congr 1
 rw [Bool.eq_iff_iff]; simp; omega
theorem Xgo (p : Xaa) : Xdd p = some (Xas p) := by
 unfold Xdd Xas
 simp only [Xb8, Xaf, Xiy]
 congr 1
 rw [Bool.eq_iff_iff]; simp; omega
def cnt (n : Int) : Bool := decide (0 ≤ n ∧ n ≤ 1000000000)
theorem Xkb (n : Int) : Xbq n = some (cnt n) := by
 unfold Xbq cnt
 rw [Xb8, Xaf]
def Xk5 (n : Int) : Int := if n + 1 < 1000000000 then n + 1 else 1000000000
theorem Xc2 (n : Int) (h : cnt n = true) : Xb7 n = some (Xk5 n) := by
 have h' : 0 ≤ n ∧ n ≤ 1000000000 := by simpa [cnt] using h
 unfold Xb7 Xk5
 rw [wkA]
 congr 1
 split <;> split <;> omega
theorem Xll (n a b : Int) : Xep n a b = some (Xo9 n a b) := by
 unfold Xep Xo9
 rw [Xqs, Xaf]
 by_cases h : b < a ∨ n < a
 ·
  rw [if_pos h, Xa1 (by simpa using h)]
 ·
  rw [if_neg h, Xa0 (by simp; omega), Xrb]; split <;> rfl
theorem Xc9 (n : Int) (h : cnt n = true) : Xb9 n = some (Xk5 n) := by
 have h' : 0 ≤ n ∧ n ≤ 1000000000 := by simpa [cnt] using h
 unfold Xb9 Xk5
 rw [wkA, Xll, Xaf]
 unfold Xo9
 congr 1
 repeat' split
 all_goals omega
def Xbf (next : Int) : Int → List Xaa → Bool
 | _, [] => true
 | Xdt, p :: r => Xas p && decide (Xdt < Xak next p.Seq ∧ Xak next p.Seq < 40) && Xbf next (Xak next p.Seq) r
def Xrv (q : Xah) : Bool := cnt q.Late && cnt q.Far && cnt q.Twice && cnt q.Over && cnt q.Lost
def Xap (q : Xah) : Bool :=
 if q.Begun = true then decide (0 ≤ q.Next ∧ q.Next ≤ 65535 ∧ 0 ≤ q.Age ∧ q.Age ≤ 20 ∧ q.Held.length ≤ 24) && (Xbf q.Next (-1) q.Held && Xrv q)
 else decide (q.Next = 0 ∧ q.Age = 0 ∧ q.Held.length = 0 ∧ q.Late = 0 ∧ q.Far = 0 ∧ q.Twice = 0 ∧ q.Over = 0 ∧ q.Lost = 0)
theorem Xfc (q : Xah) : Xc6 q = some (Xap q) := by
 unfold Xc6 Xap
 simp only [Xb8, Xkb, Xaf, Xiy, Xgk]
 by_cases hb : q.Begun = true
 ·
  rw [Xa0 (by simp [hb]), if_pos hb]
  by_cases h1 : 0 ≤ q.Next ∧ q.Next ≤ 65535 ∧ 0 ≤ q.Age ∧ q.Age ≤ 20 ∧ q.Held.length ≤ 24
  ·
   rw [Xa0 (by simp; omega), decide_eq_true h1, Bool.true_and]
   have key : ∀ (r a : List Xaa) (Xdt : Int), q.Held = a ++ r → loop (Xce q) (Xdt, (a.length : Int)) = some (if Xbf q.Next Xdt r = true then .out () else .ret false) := by
    intro r
    induction r with
    | nil =>
     intro a Xdt ha
     rw [List.append_nil] at ha
     refine Xl1 ?_
     unfold Xce
     simp only
     rw [Xck (by rw [ha]; omega)]; rfl
    | cons p r ih =>
     intro a Xdt ha
     have hlen : a.length < q.Held.length := by rw [ha]; simp
     have hp : q.Held.getD a.length Xad = p := by rw [ha]; exact Xe6 a p _ r
     have hstep : Xce q (Xdt, (a.length : Int)) = sel (!(Xas p && decide (Xdt < Xak q.Next p.Seq ∧ Xak q.Next p.Seq < 40))) (some (.done (.ret false))) (some (.go (Xak q.Next p.Seq, ((a.length + 1 : Nat) : Int)))) := by
      unfold Xce
      simp only [Int.toNat_natCast, hp]
      rw [syA, rqA, Xcv, Xaf, rqA, Xgo, Xaf, wkA, Xqs, Xgk, Xaf]
      congr 1
      cases Xas p <;> rw [Bool.eq_iff_iff] <;> simp <;> omega
     by_cases h : Xas p = true ∧ Xdt < Xak q.Next p.Seq ∧ Xak q.Next p.Seq < 40
     ·
      rw [lgo (by rw [hstep, Xa0 (by simp [h])]) rfl]
      have := ih (a ++ [p]) (Xak q.Next p.Seq) (by rw [ha]; simp)
      rw [List.length_append, List.length_singleton] at this
      rw [this]
      simp [Xbf, h]
     ·
      rw [Xl1 (by rw [hstep, Xa1 (by simp only [Bool.not_eq_true', Bool.and_eq_false_iff, decide_eq_false_iff_not]; by_cases hp : Xas p = true; exact .inr (fun e => h ⟨hp, e⟩); exact .inl (by simpa using hp))])]
      rw [if_neg]
      simp only [Xbf, Bool.and_eq_true, decide_eq_true_eq]
      exact fun e => h ⟨e.1.1, e.1.2⟩
   have := key q.Held [] (-1) rfl
   simp only [List.length_nil] at this
   rw [show (((-1 : Int), (0 : Int))) = ((-1), ((0 : Nat) : Int)) from rfl, this, Xaf]
   by_cases h2 : Xbf q.Next (-1) q.Held = true
   ·
    rw [if_pos h2, h2]; simp only [Xrv, Bool.true_and, Bool.and_assoc]
   ·
    rw [if_neg h2]; simp only [Bool.not_eq_true] at h2; rw [h2]; rfl
  ·
   rw [Xa1 (by simp; omega), decide_eq_false h1, Bool.false_and]
 ·
  rw [Xa1 (by simpa using hb), if_neg hb]
  congr 1
  rw [Bool.eq_iff_iff]; simp
theorem Xc0 (q : Xah) : Xbr q = some (Xap q) := by
 unfold Xbr Xap
 simp only [Xdk, Xbs, Xaf, Xiy, Xgk]
 by_cases hb : q.Begun = true
 ·
  rw [Xa0 (by simp [hb]), if_pos hb]
  by_cases h1 : 0 ≤ q.Next ∧ q.Next ≤ 65535 ∧ 0 ≤ q.Age ∧ q.Age ≤ 20 ∧ q.Held.length ≤ 24
  ·
   rw [Xa0 (by simp; omega), decide_eq_true h1, Bool.true_and]
   have key : ∀ (r a : List Xaa) (Xdt : Int), q.Held = a ++ r → -1 ≤ Xdt → Xdt < 40 → loop (Xcd q) (Xdt, (a.length : Int)) = some (if Xbf q.Next Xdt r = true then .out () else .ret false) := by
    intro r
    induction r with
    | nil =>
     intro a Xdt ha _ _
     rw [List.append_nil] at ha
     refine Xl1 ?_
     unfold Xcd
     simp only
     rw [Xck (by rw [ha]; omega)]; rfl
    | cons p r ih =>
     intro a Xdt ha hl1 hl2
     have hlen : a.length < q.Held.length := by rw [ha]; simp
     have hp : q.Held.getD a.length Xad = p := by rw [ha]; exact Xe6 a p _ r
     have hstep : Xcd q (Xdt, (a.length : Int)) = sel (!(Xas p && decide (Xdt < Xak q.Next p.Seq ∧ Xak q.Next p.Seq < 40))) (some (.done (.ret false))) (some (.go (Xak q.Next p.Seq, ((a.length + 1 : Nat) : Int)))) := by
      unfold Xcd
      simp only [Int.toNat_natCast, hp]
      rw [syA, rqA, Xdi, Xaf, Xgm, Xaf, wkA, Xbs, Xaf, wkA, Xgk, Xaf]
      congr 1
      cases Xas p <;> rw [Bool.eq_iff_iff] <;> simp <;> omega
     by_cases h : Xas p = true ∧ Xdt < Xak q.Next p.Seq ∧ Xak q.Next p.Seq < 40
     ·
      rw [lgo (by rw [hstep, Xa0 (by simp [h])]) rfl]
      have := ih (a ++ [p]) (Xak q.Next p.Seq) (by rw [ha]; simp) (by omega) (by omega)
      rw [List.length_append, List.length_singleton] at this
      rw [this]
      simp [Xbf, h]
     ·
      rw [Xl1 (by rw [hstep, Xa1 (by simp only [Bool.not_eq_true', Bool.and_eq_false_iff, decide_eq_false_iff_not]; by_cases hp : Xas p = true; exact .inr (fun e => h ⟨hp, e⟩); exact .inl (by simpa using hp))])]
      rw [if_neg]
      simp only [Xbf, Bool.and_eq_true, decide_eq_true_eq]
      exact fun e => h ⟨e.1.1, e.1.2⟩
   have := key q.Held [] (-1) rfl (by omega) (by omega)
   simp only [List.length_nil] at this
   rw [show (((-1 : Int), (0 : Int))) = ((-1), ((0 : Nat) : Int)) from rfl, this, Xaf]
   by_cases h2 : Xbf q.Next (-1) q.Held = true
   ·
    rw [if_pos h2, h2, Bool.true_and]
    have st : ∀ i : Nat, i < 5 → Xbi q (i : Int) = sel (cnt (([q.Late, q.Far, q.Twice, q.Over, q.Lost]).getD i 0)) (some (.go ((i + 1 : Nat) : Int))) (some (.done (.ret false))) := by
     intro i hi
     unfold Xbi
     simp only [List.length_cons, List.length_nil]
     rw [syA, rqA, rqA, Xbs, Xaf, Xl3, wkA]
     rfl
    have e5 : loop (Xbi q) ((5 : Nat) : Int) = some (.out ()) := Xl1 (by unfold Xbi; rw [Xck (by simp)])
    have go : ∀ i : Nat, i < 5 → loop (Xbi q) (i : Int) = sel (cnt (([q.Late, q.Far, q.Twice, q.Over, q.Lost]).getD i 0)) (loop (Xbi q) ((i + 1 : Nat) : Int)) (some (.ret false)) := by
     intro i hi
     have := st i hi
     cases h : cnt (([q.Late, q.Far, q.Twice, q.Over, q.Lost]).getD i 0) with
     | true => rw [h] at this; exact Xez this
     | false => rw [h] at this; exact Xbz this
    have := go 0 (by omega)
    rw [show (0 : Int) = ((0 : Nat) : Int) from rfl, this, go 1 (by omega), go 2 (by omega), go 3 (by omega), go 4 (by omega), e5]
    simp only [Xrv, List.getD_cons_zero, List.getD_cons_succ]
    cases cnt q.Late <;> cases cnt q.Far <;> cases cnt q.Twice <;> cases cnt q.Over <;> cases cnt q.Lost <;> rfl
   ·
    rw [if_neg h2]; simp only [Bool.not_eq_true] at h2; rw [h2]; rfl
  ·
   rw [Xa1 (by simp; omega), decide_eq_false h1, Bool.false_and]
 ·
  rw [Xa1 (by simpa using hb), if_neg hb]
  congr 1
  rw [Bool.eq_iff_iff]; simp
theorem Xmg : ∀ {l : List Xaa} {n Xdt : Int}, Xbf n Xdt l = true → ∀ p ∈ l, Xas p = true
 | [], _, _, _, p, hp => by simp at hp
 | q :: r, n, Xdt, h, p, hp => by
  rw [Xbf, Bool.and_eq_true, Bool.and_eq_true] at h
  rcases List.mem_cons.1 hp with rfl | hp
  ·
   exact h.1.1
  ·
   exact Xmg h.2 p hp
theorem Xaq {q : Xah} (h : Xap q = true) : 0 ≤ q.Next ∧ q.Next ≤ 65535 ∧ q.Held.length ≤ 24 ∧ 0 ≤ q.Age ∧ q.Age ≤ 20 ∧ Xrv q = true ∧ ∀ p ∈ q.Held, Xas p = true := by
 unfold Xap at h
 by_cases hb : q.Begun = true
 ·
  rw [if_pos hb, Bool.and_eq_true, Bool.and_eq_true, decide_eq_true_eq] at h
  exact ⟨h.1.1, h.1.2.1, h.1.2.2.2.2, h.1.2.2.1, h.1.2.2.2.1, h.2.2, Xmg h.2.1⟩
 ·
  rw [if_neg hb, decide_eq_true_eq] at h
  obtain ⟨h1, h2, h3, h4, h5, h6, h7, h8⟩ := h
  have : q.Held = [] := List.length_eq_zero_iff.1 h3
  refine ⟨by omega, by omega, by omega, by omega, by omega, ?_, by rw [this]; simp⟩
  unfold Xrv cnt; rw [h4, h5, h6, h7, h8]; rfl
theorem Xdv {q : Xah} (h : Xrv q = true) : cnt q.Late = true ∧ cnt q.Far = true ∧ cnt q.Twice = true ∧ cnt q.Over = true ∧ cnt q.Lost = true := by
 unfold Xrv at h
 simp only [Bool.and_eq_true] at h
 exact ⟨h.1.1.1.1, h.1.1.1.2, h.1.1.2, h.1.2, h.2⟩
theorem Xfv (q : Xah) (h : q.Held.length ≤ 1048576) : Xcs q = some q := by
 have hm : maxLen = 9223372036854775807 := rfl
 unfold Xcs
 rw [Xci (by simp only [List.length_nil]; omega), List.nil_append]
theorem Xg0 (q : Xah) (h : q.Held.length ≤ 1048576) : Xds q = some q := by
 have hm : maxLen = 9223372036854775807 := rfl
 unfold Xds
 rw [Xci (by simp only [List.length_nil]; omega), List.nil_append]
def Xbk (s : Int) (l : List Xaa) : Bool := l.any fun p => p.Seq == s
theorem Xp2 (q : Xah) (s : Int) (f : Int → Option (Lp Int (Ou Unit Bool))) (hl : q.Held.length ≤ 1048576)
  (h : ∀ i : Nat, i < q.Held.length → f (i : Int) = sel (((q.Held.getD i Xad).Seq) == s) (some (.done (.ret true))) (some (.go ((i + 1 : Nat) : Int)))) (h0 : f (q.Held.length : Int) = some (.done (.out ()))) :
  loop f 0 = some (if Xbk s q.Held = true then .ret true else .out ()) := by
 have key : ∀ (r a : List Xaa), q.Held = a ++ r → loop f (a.length : Int) = some (if Xbk s r = true then .ret true else .out ()) := by
  intro r
  induction r with
  | nil => intro a ha; rw [List.append_nil] at ha; rw [ha] at h0; rw [Xbz h0]; rfl
  | cons p r ih =>
   intro a ha
   have hlen : a.length < q.Held.length := by rw [ha]; simp
   have hp : q.Held.getD a.length Xad = p := by rw [ha]; exact Xe6 a p _ r
   have hs := h a.length hlen
   rw [hp] at hs
   by_cases e : p.Seq = s
   ·
    rw [Xa1 (by simpa using e)] at hs
    rw [Xbz hs, if_pos (by simp [Xbk, e])]
   ·
    rw [Xa0 (by simpa using e)] at hs
    rw [Xez hs]
    have := ih (a ++ [p]) (by rw [ha]; simp)
    rw [List.length_append, List.length_singleton] at this
    rw [this]
    have e2 : Xbk s (p :: r) = Xbk s r := by simp [Xbk, e]
    rw [e2]
 exact key q.Held [] rfl
theorem Xjj (q : Xah) (s : Int) : Xdw q s = some (Xap q && Xbk s q.Held) := by
 unfold Xdw
 rw [Xc0, Xaf, Xl3]
 cases h : Xap q with
 | false => rfl
 | true =>
  have hq := Xaq h
  rw [Xfg, Xp2 q s (Xco q s) (by omega) (by
   intro i hi
   unfold Xco
   rw [syA, rqA, wkA]; rfl) (by unfold Xco; rw [snA]), Xaf]
  cases Xbk s q.Held <;> rfl
theorem Xjy (q : Xah) (s : Int) : Xd1 q s = some (Xap q && Xbk s q.Held) := by
 unfold Xd1
 rw [Xfc, Xaf, Xl3]
 cases h : Xap q with
 | false => rfl
 | true =>
  have hq := Xaq h
  rw [Xfg, Xp2 q s (Xcp q s) (by omega) (by
   intro i hi
   unfold Xcp
   rw [syA, rqA, wkA]; rfl) (by unfold Xcp; rw [snA]), Xaf]
  cases Xbk s q.Held <;> rfl
def Xaz (next : Int) : Nat → List Xaa → Nat
 | _, [] => 0
 | i, p :: r => if p.Seq = Xaw next i then (if p.Last = true then i + 1 else Xaz next (i + 1) r) else 0
theorem Xh4 (next : Int) : ∀ (r : List Xaa) (i : Nat), Xaz next i r ≤ i + r.length
 | [], i => by simp [Xaz]
 | p :: r, i => by
  rw [Xaz]
  have := Xh4 next r (i + 1)
  split
  ·
   split
   ·
    simp
   ·
    simp; omega
  ·
   omega
theorem Xrw {n s : Int} {i : Nat} (h1 : 0 ≤ n ∧ n ≤ 65535) (h2 : 0 ≤ s ∧ s ≤ 65535) (h3 : i ≤ 24) : Xak n s = i ↔ s = Xaw n i := by
 unfold Xak Xaw
 rw [if_pos (show 0 ≤ n ∧ n ≤ 65535 ∧ 0 ≤ s ∧ s ≤ 65535 by omega), if_pos (show 0 ≤ n ∧ n ≤ 65535 ∧ (0 : Int) ≤ (i : Int) ∧ (i : Int) ≤ 65535 by omega)]
 constructor
 ·
  intro h
  split at h
  ·
   omega
  ·
   split at h <;> omega
 ·
  intro h
  split
  ·
   omega
  ·
   split <;> omega
theorem Xox {n : Int} {i : Nat} (h1 : 0 ≤ n ∧ n ≤ 65535) (h3 : i ≤ 24) : Xaw (Xaw n i) 1 = Xaw n ((i + 1 : Nat) : Int) := by
 unfold Xaw
 rw [if_pos (show 0 ≤ n ∧ n ≤ 65535 ∧ (0 : Int) ≤ (i : Int) ∧ (i : Int) ≤ 65535 by omega), if_pos (by omega), if_pos (by omega)]
 omega
theorem Xkf (q : Xah) (h : Xap q = true) : Xd3 q = some (Xaz q.Next 0 q.Held : Int) := by
 have hq := Xaq h
 unfold Xd3
 have key : ∀ (r a : List Xaa), q.Held = a ++ r → loop (Xbn q) (a.length : Int) = some (.ret (Xaz q.Next a.length r : Int)) ∨ loop (Xbn q) (a.length : Int) = some (.out ()) ∧ Xaz q.Next a.length r = 0 := by
  intro r
  induction r with
  | nil =>
   intro a ha
   rw [List.append_nil] at ha
   exact .inr ⟨Xl1 (by unfold Xbn; rw [Xck (by rw [ha]; omega)]), rfl⟩
  | cons p r ih =>
   intro a ha
   have hlen : a.length < q.Held.length := by rw [ha]; simp
   have hp : q.Held.getD a.length Xad = p := by rw [ha]; exact Xe6 a p _ r
   have hpk := (Xa2 p).1 (hq.2.2.2.2.2.2 p (by rw [ha]; simp))
   have hstep : Xbn q (a.length : Int) = sel (Xak q.Next p.Seq != (a.length : Int)) (some (.done (.ret 0))) (sel p.Last (some (.done (.ret ((a.length + 1 : Nat) : Int)))) (some (.go ((a.length + 1 : Nat) : Int)))) := by
    unfold Xbn
    simp only [Int.toNat_natCast, hp]
    rw [syA, rqA, Xcv, Xaf, rqA, wkA]
    rfl
   have hg := Xrw (n := q.Next) (s := p.Seq) (i := a.length) (by omega) (by omega) (by omega)
   by_cases e : p.Seq = Xaw q.Next a.length
   ·
    rw [Xa0 (by simp; exact hg.2 e)] at hstep
    by_cases e2 : p.Last = true
    ·
     rw [Xa1 e2] at hstep
     left; rw [Xbz hstep, Xaz, if_pos e, if_pos e2]
    ·
     rw [Xa0 (by simpa using e2)] at hstep
     have := ih (a ++ [p]) (by rw [ha]; simp)
     rw [List.length_append, List.length_singleton] at this
     rw [Xez hstep, Xaz, if_pos e, if_neg e2]; exact this
   ·
    rw [Xa1 (by simp; exact fun x => e (hg.1 x))] at hstep
    left; rw [Xbz hstep, Xaz, if_neg e]; rfl
 rcases key q.Held [] rfl with e | ⟨e, e2⟩
 ·
  simp only [List.length_nil] at e
  rw [show (0 : Int) = ((0 : Nat) : Int) from rfl, e]; rfl
 ·
  simp only [List.length_nil] at e e2
  rw [show (0 : Int) = ((0 : Nat) : Int) from rfl, e, e2]; rfl
def Xd5 (next : Int) : List Xaa → Nat
 | [] => 0
 | p :: r => if p.First = true ∧ p.Seq ≠ next then 0 else Xd5 next r + 1
theorem Xnn (next : Int) : ∀ r : List Xaa, Xd5 next r ≤ r.length
 | [] => by simp [Xd5]
 | p :: r => by
  rw [Xd5]; have := Xnn next r
  split
  ·
   omega
  ·
   simp; omega
def Xk6 (q : Xah) : Int := if Xd5 q.Next q.Held < q.Held.length then (q.Held.getD (Xd5 q.Next q.Held) Xad).Seq else Xaw (q.Held.getD (q.Held.length - 1) Xad).Seq 1
def Xeo (q : Xah) (w : Int) : Xah × List Xaa × Int :=
 if Xap q = true ∧ 0 ≤ w ∧ w ≤ 20 then
  (if 0 < Xaz q.Next 0 q.Held then (⟨q.Begun, Xaw q.Next (Xaz q.Next 0 q.Held), 0, q.Held.drop (Xaz q.Next 0 q.Held), q.Late, q.Far, q.Twice, q.Over, q.Lost⟩, q.Held.take (Xaz q.Next 0 q.Held), 1)
  else if q.Held.length = 0 then (⟨q.Begun, q.Next, 0, q.Held, q.Late, q.Far, q.Twice, q.Over, q.Lost⟩, [], 0)
  else if q.Age < w then (⟨q.Begun, q.Next, q.Age + 1, q.Held, q.Late, q.Far, q.Twice, q.Over, q.Lost⟩, [], 0)
  else (⟨q.Begun, Xk6 q, 0, q.Held.drop (Xd5 q.Next q.Held), q.Late, q.Far, q.Twice, q.Over, Xk5 q.Lost⟩, [], 2))
 else (q, [], 0)
theorem Xsp (q : Xah) (hl : q.Held.length ≤ 24) : loop (Xbd q) 0 = some (Xd5 q.Next q.Held : Int) := by
 have key : ∀ (r a : List Xaa), q.Held = a ++ r → loop (Xbd q) (a.length : Int) = some ((a.length + Xd5 q.Next r : Nat) : Int) := by
  intro r
  induction r with
  | nil =>
   intro a ha
   rw [List.append_nil] at ha
   refine Xl1 ?_
   unfold Xbd
   rw [Xck (by rw [ha]; omega), Xaf, Xg8]; rfl
  | cons p r ih =>
   intro a ha
   have hlen : a.length < q.Held.length := by rw [ha]; simp
   have hp : q.Held.getD a.length Xad = p := by rw [ha]; exact Xe6 a p _ r
   have hstep : Xbd q (a.length : Int) = sel (!(p.First && p.Seq != q.Next)) (some (.go ((a.length + 1 : Nat) : Int))) (some (.done (a.length : Int))) := by
    unfold Xbd
    simp only [Int.toNat_natCast, hp]
    rw [syA, rqA, rqA, rqA, rqA, wkA, Xgk, Xaf]
    congr 1
    cases p.First <;> simp
   by_cases e : p.First = true ∧ p.Seq ≠ q.Next
   ·
    rw [Xa0 (by simp [e])] at hstep
    rw [Xbz hstep, Xd5, if_pos e]; rfl
   ·
    rw [Xa1 (by
     rw [Bool.not_eq_true', Bool.and_eq_false_iff]
     by_cases h1 : p.First = true
     ·
      right; simp; exact Classical.byContradiction fun h2 => e ⟨h1, h2⟩
     ·
      left; simpa using h1)] at hstep
    have := ih (a ++ [p]) (by rw [ha]; simp)
    rw [List.length_append, List.length_singleton] at this
    rw [Xez hstep, Xd5, if_neg e, this]
    congr 2
    omega
 have := key q.Held [] rfl
 simpa using this
theorem Xhf {α : Type} (l : List α) (k : Nat) : (l.drop k).take (l.length - k) = l.drop k := List.take_of_length_le (by rw [List.length_drop]; omega)
theorem Xf5 (q : Xah) (w : Int) (hl : q.Held.length ≤ 1048576) : Xbu q w = some (Xeo q w) := by
 have hm : maxLen = 9223372036854775807 := rfl
 unfold Xbu Xeo
 rw [Xg0 q hl, Xaf, Xfc, Xaf]
 by_cases h : Xap q = true ∧ 0 ≤ w ∧ w ≤ 20
 ·
  rw [if_pos h, Xa1 h.1, Xb8, Xaf, Xaf, Xa0 (by simpa using h.2), Xkf q h.1, Xaf]
  have hq := Xaq h.1
  have hr := Xh4 q.Next q.Held 0
  generalize Xaz q.Next 0 q.Held = r at hr ⊢
  simp only [Int.toNat_natCast, Int.toNat_zero, List.drop_zero, List.length_nil, List.nil_append, Nat.zero_add, Nat.sub_zero, Xhf]
  by_cases hr0 : 0 < r
  ·
   rw [if_pos hr0, syA, rqA, Xci (by simp only [List.length_take]; omega), Xfe, Xaf, rqA, Xci (by simp only [List.length_drop]; omega)]
  ·
   rw [if_neg hr0, snA]
   by_cases h0 : q.Held.length = 0
   ·
    rw [if_pos h0, Xa1 (by simp [h0])]
   ·
    rw [if_neg h0, Xa0 (by simpa using h0)]
    by_cases ha : q.Age < w
    ·
     rw [if_pos ha, Xcx ha, wkA]
    ·
     rw [if_neg ha, Xck ha, Xsp q hq.2.2.1, Xaf]
     have hs := Xnn q.Next q.Held
     have hn : Xk6 q = if Xd5 q.Next q.Held < q.Held.length then (q.Held.getD (Xd5 q.Next q.Held) Xad).Seq else Xaw (q.Held.getD (q.Held.length - 1) Xad).Seq 1 := rfl
     generalize Xd5 q.Next q.Held = s at hs hn ⊢
     rw [Xc9 _ (Xdv hq.2.2.2.2.2.1).2.2.2.2]
     simp only [Int.toNat_natCast, Xhf, Xaf, hn]
     by_cases hsl : s < q.Held.length
     ·
      rw [syA, rqA, rqA, Xaf, rqA, Xci (by simp only [List.length_drop]; omega), if_pos hsl]
     ·
      rw [snA, wkA, rqA, rqA, Xfe, Xaf, Xaf, rqA, Xci (by simp only [List.length_drop]; omega), if_neg hsl]
      rw [show ((s : Int) - 1).toNat = q.Held.length - 1 by omega]
 ·
  rw [if_neg h]
  cases hb : Xap q with
  | false => rw [Xg8, Xaf, Xfg]
  | true =>
   have h' : ¬ (0 ≤ w ∧ w ≤ 20) := fun e => h ⟨hb, e⟩
   rw [Xfg, Xb8, Xaf, Xaf, Xa1 (by simp; omega)]
def Xo1 (q : Xah) (r : Nat) : Xah × List Xaa × Int := (⟨q.Begun, Xaw q.Next r, 0, q.Held.drop r, q.Late, q.Far, q.Twice, q.Over, q.Lost⟩, q.Held.take r, 1)
theorem Xsu (q : Xah) (h : Xap q = true) : loop (Xa9 q q) 0 = some (if 0 < Xaz q.Next 0 q.Held then .ret (Xo1 q (Xaz q.Next 0 q.Held)) else .out ()) := by
 have hm : maxLen = 9223372036854775807 := rfl
 have hq := Xaq h
 have key : ∀ (r a : List Xaa), q.Held = a ++ r → loop (Xa9 q q) (a.length : Int) = some (if 0 < Xaz q.Next a.length r then .ret (Xo1 q (Xaz q.Next a.length r)) else .out ()) := by
  intro r
  induction r with
  | nil =>
   intro a ha
   rw [List.append_nil] at ha
   refine Xl1 ?_
   unfold Xa9
   rw [Xck (by rw [ha]; omega)]; rfl
  | cons p r ih =>
   intro a ha
   have hlen : a.length < q.Held.length := by rw [ha]; simp
   have hp : q.Held.getD a.length Xad = p := by rw [ha]; exact Xe6 a p _ r
   have hstep : Xa9 q q (a.length : Int) = sel (p.Seq != Xaw q.Next a.length) (some (.done (.out ()))) (sel p.Last (some (.done (.ret (⟨q.Begun, Xaw p.Seq 1, 0, q.Held.drop (a.length + 1), q.Late, q.Far, q.Twice, q.Over, q.Lost⟩, q.Held.take (a.length + 1), 1)))) (some (.go ((a.length + 1 : Nat) : Int)))) := by
    unfold Xa9
    rw [wkA (e := (a.length : Int) + 1)]
    have e1 : ((a.length : Int) + 1).toNat = a.length + 1 := by omega
    simp only [Int.toNat_natCast, hp, e1, Int.toNat_zero, List.drop_zero, List.length_nil, List.nil_append, Nat.zero_add, Nat.sub_zero, Xhf]
    rw [syA, rqA, rqA, Xdy, Xaf, rqA, Xci (by simp only [List.length_take]; omega), rqA, Xci (by simp only [List.length_drop]; omega), Xdy, Xaf]
    rfl
   by_cases e : p.Seq = Xaw q.Next a.length
   ·
    rw [Xa0 (by simpa using e)] at hstep
    by_cases e2 : p.Last = true
    ·
     rw [Xa1 e2] at hstep
     rw [Xbz hstep, Xaz, if_pos e, if_pos e2, if_pos (by omega), e, Xox (by omega) (by omega)]
     rfl
    ·
     rw [Xa0 (by simpa using e2)] at hstep
     have := ih (a ++ [p]) (by rw [ha]; simp)
     rw [List.length_append, List.length_singleton] at this
     rw [Xez hstep, Xaz, if_pos e, if_neg e2, this]
   ·
    rw [Xa1 (by simpa using e)] at hstep
    rw [Xbz hstep, Xaz, if_neg e]; rfl
 exact key q.Held [] rfl
theorem Xso (q : Xah) (n : Int) (hl : q.Held.length ≤ 24) : loop (Xba q n) 0 = some (if Xd5 q.Next q.Held < q.Held.length then (q.Held.getD (Xd5 q.Next q.Held) Xad).Seq else n, q.Held.drop (Xd5 q.Next q.Held)) := by
 have hm : maxLen = 9223372036854775807 := rfl
 have key : ∀ (r a : List Xaa), q.Held = a ++ r → loop (Xba q n) (a.length : Int) = some (if a.length + Xd5 q.Next r < q.Held.length then (q.Held.getD (a.length + Xd5 q.Next r) Xad).Seq else n, q.Held.drop (a.length + Xd5 q.Next r)) := by
  intro r
  induction r with
  | nil =>
   intro a ha
   rw [List.append_nil] at ha
   refine Xl1 ?_
   unfold Xba
   rw [Xck (by rw [ha]; omega)]
   rw [show Xd5 q.Next [] = 0 from rfl, Nat.add_zero, if_neg (by rw [ha]; omega), List.drop_eq_nil_of_le (by rw [ha]; omega)]
  | cons p r ih =>
   intro a ha
   have hlen : a.length < q.Held.length := by rw [ha]; simp
   have hp : q.Held.getD a.length Xad = p := by rw [ha]; exact Xe6 a p _ r
   have hstep : Xba q n (a.length : Int) = sel (p.First && p.Seq != q.Next) (some (.done (p.Seq, q.Held.drop a.length))) (some (.go ((a.length + 1 : Nat) : Int))) := by
    unfold Xba
    simp only [Int.toNat_natCast, hp, List.length_nil, List.nil_append, Nat.zero_add, Xhf]
    rw [syA, rqA, rqA, Xci (by simp only [List.length_drop]; omega), wkA, Xiy, Xaf]
    rfl
   by_cases e : p.First = true ∧ p.Seq ≠ q.Next
   ·
    rw [Xa1 (by simp [e])] at hstep
    rw [Xbz hstep, Xd5, if_pos e, Nat.add_zero, if_pos hlen, hp]
   ·
    rw [Xa0 (by
     rw [Bool.and_eq_false_iff]
     by_cases h1 : p.First = true
     ·
      right; simp; exact Classical.byContradiction fun h2 => e ⟨h1, h2⟩
     ·
      left; simpa using h1)] at hstep
    have := ih (a ++ [p]) (by rw [ha]; simp)
    rw [List.length_append, List.length_singleton] at this
    rw [Xez hstep, Xd5, if_neg e, this, show a.length + 1 + Xd5 q.Next r = a.length + (Xd5 q.Next r + 1) by omega]
 have := key q.Held [] rfl
 simpa using this
theorem Xiu (q : Xah) (w : Int) (hl : q.Held.length ≤ 1048576) : Xcr q w = some (Xeo q w) := by
 unfold Xcr Xeo
 rw [Xfv q hl, Xaf, Xc0, Xaf]
 by_cases h : Xap q = true ∧ 0 ≤ w ∧ w ≤ 20
 ·
  rw [if_pos h, Xa1 h.1, Xbs, Xaf, Xaf, Xa0 (by simpa using h.2), Xsu q h.1, Xaf]
  have hq := Xaq h.1
  by_cases hr0 : 0 < Xaz q.Next 0 q.Held
  ·
   rw [if_pos hr0, if_pos hr0]; rfl
  ·
   rw [if_neg hr0, if_neg hr0]
   simp only
   by_cases h0 : q.Held.length = 0
   ·
    rw [if_pos h0, Xa1 (by simp [h0])]
   ·
    rw [if_neg h0, Xa0 (by simpa using h0)]
    by_cases ha : q.Age < w
    ·
     rw [if_pos ha, Xcx ha, wkA]
    ·
     rw [if_neg ha, Xck ha, Xc2 _ (Xdv hq.2.2.2.2.2.1).2.2.2.2, Xaf, wkA, rqA, Xdy, Xaf, Xso q _ hq.2.2.1, Xaf]
     rw [show ((q.Held.length : Int) - 1).toNat = q.Held.length - 1 by omega]
     rfl
 ·
  rw [if_neg h]
  cases hb : Xap q with
  | false => rw [Xg8, Xaf, Xfg]
  | true =>
   have h' : ¬ (0 ≤ w ∧ w ≤ 20) := fun e => h ⟨hb, e⟩
   rw [Xfg, Xbs, Xaf, Xaf, Xa1 (by simp; omega)]
def Xop (n g : Int) (p : Xaa) : List Xaa → List Xaa
 | [] => [p]
 | x :: r => if g < Xak n x.Seq then p :: x :: r else x :: Xop n g p r
def Xqi (n g : Int) (p : Xaa) : List Xaa → Bool × List Xaa
 | [] => (false, [])
 | x :: r => if g < Xak n x.Seq then (true, p :: x :: r) else ((Xqi n g p r).1, x :: (Xqi n g p r).2)
theorem Xoq (n g : Int) (p : Xaa) : ∀ r : List Xaa, Xop n g p r = if (Xqi n g p r).1 = true then (Xqi n g p r).2 else (Xqi n g p r).2 ++ [p]
 | [] => rfl
 | x :: r => by
  rw [Xop, Xqi]
  split
  ·
   rfl
  ·
   rw [Xoq n g p r]
   simp only
   split <;> simp
theorem Xqj (n g : Int) (p : Xaa) : ∀ r : List Xaa, (Xqi n g p r).2.length ≤ r.length + 1
 | [] => by simp [Xqi]
 | x :: r => by
  rw [Xqi]
  split
  ·
   simp
  ·
   have := Xqj n g p r; simp; omega
theorem Xqh (n g : Int) (p : Xaa) : ∀ r : List Xaa, (Xop n g p r).length = r.length + 1
 | [] => rfl
 | x :: r => by
  rw [Xop]
  split
  ·
   rfl
  ·
   rw [List.length_cons, Xqh n g p r]; rfl
theorem Xhd (q : Xah) (p : Xaa) (hl : q.Held.length ≤ 24) : Xef q p = some (⟨q.Begun, q.Next, q.Age, Xop q.Next (Xak q.Next p.Seq) p q.Held, q.Late, q.Far, q.Twice, q.Over, q.Lost⟩ : Xah) := by
 have hm : maxLen = 9223372036854775807 := rfl
 unfold Xef
 rw [Xcv, Xaf]
 generalize hg : Xak q.Next p.Seq = g
 have step : ∀ (a : List Xaa) (x : Xaa) (r out : List Xaa) (b : Bool), q.Held = a ++ x :: r → out.length ≤ a.length + 1 → Xbw q p g (b, (a.length : Int), out) = some (.go (if b = true then (true, ((a.length + 1 : Nat) : Int), out ++ [x]) else if g < Xak q.Next x.Seq then (true, ((a.length + 1 : Nat) : Int), out ++ [p] ++ [x]) else (false, ((a.length + 1 : Nat) : Int), out ++ [x]))) := by
  intro a x r out b ha ho
  have hlen : a.length < q.Held.length := by rw [ha]; simp
  have hx : q.Held.getD a.length Xad = x := by rw [ha]; exact Xe6 a x _ r
  unfold Xbw
  simp only [Int.toNat_natCast, hx]
  rw [syA, Xci (c := 0 ≤ (a.length : Int) ∧ _) (by omega), Xcv, Xaf, wkA]
  cases b with
  | true => rw [Xfg, Xaf, Xg8, Xaf, rqA, Xci (by simp only [List.length_singleton]; omega)]; rfl
  | false =>
   rw [Xg8, Xaf, Xrb]
   by_cases h : g < Xak q.Next x.Seq
   ·
    rw [if_pos (show Xak q.Next x.Seq > g from h), Xci (by simp only [List.length_singleton]; omega), Xaf, rqA, Xci (by simp only [List.length_append, List.length_singleton]; omega), if_neg (by decide), if_pos h]; rfl
   ·
    rw [if_neg (show ¬ Xak q.Next x.Seq > g from h), Xaf, rqA, Xci (by simp only [List.length_singleton]; omega), if_neg (by decide), if_neg h]; rfl
 have fin : ∀ (b : Bool) (out : List Xaa), Xbw q p g (b, (q.Held.length : Int), out) = some (.done (b, out)) := by
  intro b out; unfold Xbw; simp only; rw [snA]
 have key1 : ∀ (r a out : List Xaa), q.Held = a ++ r → out.length ≤ a.length + 1 → loop (Xbw q p g) (true, (a.length : Int), out) = some (true, out ++ r) := by
  intro r
  induction r with
  | nil => intro a out ha _; rw [List.append_nil] at ha; rw [← ha, Xbz (fin _ _), List.append_nil]
  | cons x r ih =>
   intro a out ha ho
   rw [Xez (step a x r out true ha ho), if_pos rfl]
   have := ih (a ++ [x]) (out ++ [x]) (by rw [ha]; simp) (by simp; omega)
   rw [List.length_append, List.length_singleton] at this
   rw [this]; simp
 have key : ∀ (r a out : List Xaa), q.Held = a ++ r → out.length ≤ a.length → loop (Xbw q p g) (false, (a.length : Int), out) = some ((Xqi q.Next g p r).1, out ++ (Xqi q.Next g p r).2) := by
  intro r
  induction r with
  | nil => intro a out ha _; rw [List.append_nil] at ha; rw [← ha, Xbz (fin _ _)]; simp [Xqi]
  | cons x r ih =>
   intro a out ha ho
   rw [Xez (step a x r out false ha (by omega)), if_neg (by decide), Xqi]
   by_cases h : g < Xak q.Next x.Seq
   ·
    rw [if_pos h, if_pos h]
    have := key1 r (a ++ [x]) (out ++ [p] ++ [x]) (by rw [ha]; simp) (by simp; omega)
    rw [List.length_append, List.length_singleton] at this
    rw [this]; simp
   ·
    rw [if_neg h, if_neg h]
    have := ih (a ++ [x]) (out ++ [x]) (by rw [ha]; simp) (by simp; omega)
    rw [List.length_append, List.length_singleton] at this
    rw [this]; simp
 have := key q.Held [] [] rfl (by simp)
 simp only [List.length_nil, List.nil_append] at this
 rw [show (((false : Bool), (0 : Int), ([] : List Xaa))) = (false, ((0 : Nat) : Int), []) from rfl, this, Xaf, Xoq]
 have hlen := Xqj q.Next g p q.Held
 cases h : (Xqi q.Next g p q.Held).1 with
 | true => rfl
 | false =>
  simp only [Bool.not_false, Xfg]
  rw [Xci (by simp only [List.length_singleton]; omega)]
  rfl
def Xjh (n g : Int) : List Xaa → Nat
 | [] => 0
 | x :: r => if Xak n x.Seq < g then Xjh n g r + 1 else 0
theorem Xp3 (n g : Int) : ∀ r : List Xaa, Xjh n g r ≤ r.length
 | [] => by simp [Xjh]
 | x :: r => by
  rw [Xjh]; have := Xp3 n g r
  split
  ·
   simp; omega
  ·
   omega
theorem Xqk (n g : Int) (p : Xaa) : ∀ r : List Xaa, (∀ x ∈ r, Xak n x.Seq ≠ g) → Xop n g p r = r.take (Xjh n g r) ++ [p] ++ r.drop (Xjh n g r)
 | [], _ => rfl
 | x :: r, h => by
  have h1 := h x (by simp)
  rw [Xop, Xjh]
  by_cases e : Xak n x.Seq < g
  ·
   rw [if_pos e, if_neg (by omega), Xqk n g p r (fun y hy => h y (by simp [hy]))]
   simp
  ·
   rw [if_neg e, if_pos (by omega)]; rfl
theorem Xob (q : Xah) (p : Xaa) (hl : q.Held.length ≤ 24) : Xbb q p = some (⟨q.Begun, q.Next, q.Age, q.Held.take (Xjh q.Next (Xak q.Next p.Seq) q.Held) ++ [p] ++ q.Held.drop (Xjh q.Next (Xak q.Next p.Seq) q.Held), q.Late, q.Far, q.Twice, q.Over, q.Lost⟩ : Xah) := by
 have hm : maxLen = 9223372036854775807 := rfl
 unfold Xbb
 generalize hg : Xak q.Next p.Seq = g
 have key : ∀ (r a : List Xaa), q.Held = a ++ r → loop (Xa7 q p) (a.length : Int) = some ((a.length + Xjh q.Next g r : Nat) : Int) := by
  intro r
  induction r with
  | nil =>
   intro a ha
   rw [List.append_nil] at ha
   refine Xl1 ?_
   unfold Xa7
   rw [Xck (by rw [ha]; omega), Xaf, Xg8]; rfl
  | cons x r ih =>
   intro a ha
   have hlen : a.length < q.Held.length := by rw [ha]; simp
   have hx : q.Held.getD a.length Xad = x := by rw [ha]; exact Xe6 a x _ r
   have hstep : Xa7 q p (a.length : Int) = sel (decide (Xak q.Next x.Seq < g)) (some (.go ((a.length + 1 : Nat) : Int))) (some (.done (a.length : Int))) := by
    unfold Xa7
    simp only [Int.toNat_natCast, hx]
    rw [syA, rqA, rqA, Xdi, Xaf, Xdi, Xaf, Xaf, hg, wkA]
    rfl
   rw [Xjh]
   by_cases e : Xak q.Next x.Seq < g
   ·
    rw [Xcx e] at hstep
    have := ih (a ++ [x]) (by rw [ha]; simp)
    rw [List.length_append, List.length_singleton] at this
    rw [Xez hstep, this, if_pos e]
    congr 2
    omega
   ·
    rw [Xck e] at hstep
    rw [Xbz hstep, if_neg e]; rfl
 have := key q.Held [] rfl
 simp only [List.length_nil, Nat.zero_add] at this
 rw [show (0 : Int) = ((0 : Nat) : Int) from rfl, this, Xaf]
 have hn := Xp3 q.Next g q.Held
 generalize Xjh q.Next g q.Held = k at hn ⊢
 simp only [Int.toNat_natCast, List.drop_zero, List.length_nil, List.nil_append, Nat.zero_add, Nat.sub_zero, Xhf]
 rw [rqA, Xci (by simp only [List.length_take]; omega), Xci (by simp only [List.length_take, List.length_singleton]; omega), rqA, Xci (by simp only [List.length_take, List.length_append, List.length_drop, List.length_singleton]; omega)]
noncomputable def Xd7 (q : Xah) : Int := (loop (Xa4 q) 0).getD 0
theorem Xml (q : Xah) (h0 : 0 < q.Held.length) (hl : q.Held.length ≤ 24) : loop (Xa4 q) 0 = some (Xd7 q) ∧ 0 ≤ Xd7 q ∧ Xd7 q < q.Held.length := by
 obtain ⟨o, h, h1, h2⟩ := Xgf (f := Xa4 q) (fun v => 0 ≤ v ∧ v < q.Held.length) (fun v => q.Held.length - v.toNat) (fun _ o => 0 ≤ o ∧ o < q.Held.length) (by
  intro v ⟨h1, h2⟩
  unfold Xa4
  rw [wkA]
  by_cases hv : v < (q.Held.length : Int) - 1
  ·
   rw [Xcx hv, rqA, Xaf, Xl3, wkA]
   cases (q.Held.getD v.toNat Xad).Last with
   | true => exact .inl ⟨_, rfl, h1, h2⟩
   | false => exact .inr ⟨_, rfl, by omega, by omega, fun _ h => h⟩
  ·
   rw [Xck hv, Xaf, Xg8]
   exact .inl ⟨_, rfl, h1, h2⟩) 0 (by omega)
 unfold Xd7; rw [h]; exact ⟨rfl, h1, h2⟩
theorem Xna (q : Xah) (h0 : 0 < q.Held.length) (hl : q.Held.length ≤ 24) : 0 ≤ Xd7 q ∧ Xd7 q < q.Held.length := (Xml q h0 hl).2
theorem Xmm (q : Xah) (h0 : 0 < q.Held.length) (hl : q.Held.length ≤ 24) : loop (Xa4 q) 0 = some (Xd7 q) := (Xml q h0 hl).1
theorem Xq2 (q : Xah) (h0 : 0 < q.Held.length) (hl : q.Held.length ≤ 24) : loop (Xc5 q) 0 = some (Xd7 q) ∧ 0 ≤ Xd7 q ∧ Xd7 q < q.Held.length := by
 refine ⟨?_, Xna q h0 hl⟩
 rw [← Xmm q h0 hl]
 have : Xa4 q = Xc5 q := by
  funext v
  unfold Xa4 Xc5
  congr 1
  by_cases h : v < Xaj .i64 ((q.Held.length : Int) - 1)
  ·
   rw [Xcx h, Xcx h]
   by_cases h2 : 0 ≤ v ∧ v < q.Held.length
   ·
    rw [Xci h2, Xci h2, rqA]
   ·
    unfold req; rw [if_neg h2, if_neg h2]
  ·
   rw [Xck h, Xck h]
 rw [this]
def Xt3 (q : Xah) (p : Xaa) : Xah := ⟨q.Begun, q.Next, q.Age, Xop q.Next (Xak q.Next p.Seq) p q.Held, q.Late, q.Far, q.Twice, q.Over, q.Lost⟩
noncomputable def Xhr (q : Xah) : Xah := ⟨q.Begun, Xaw (q.Held.getD (Xd7 q).toNat Xad).Seq 1, 0, q.Held.drop ((Xd7 q).toNat + 1), q.Late, q.Far, q.Twice, Xk5 q.Over, q.Lost⟩
noncomputable def qin (q : Xah) (p : Xaa) : Xah × Int :=
 if Xap q = true then
  if Xas p = true then
   if q.Begun = true then
    if Xak q.Next p.Seq ≥ 40 ∨ Xak q.Next p.Seq < -40 then (⟨q.Begun, p.Seq, 0, [p], q.Late, Xk5 q.Far, q.Twice, q.Over, q.Lost⟩, 4)
    else if Xak q.Next p.Seq < 0 then (⟨q.Begun, q.Next, q.Age, q.Held, Xk5 q.Late, q.Far, q.Twice, q.Over, q.Lost⟩, 3)
    else if Xbk p.Seq q.Held = true then (⟨q.Begun, q.Next, q.Age, q.Held, q.Late, q.Far, Xk5 q.Twice, q.Over, q.Lost⟩, 5)
    else if q.Held.length < 24 then (Xt3 q p, 0)
    else (if 0 ≤ Xak (Xhr q).Next p.Seq ∧ Xak (Xhr q).Next p.Seq ≤ 39 then Xt3 (Xhr q) p else Xhr q, 6)
   else (⟨true, p.Seq, 0, [p], 0, 0, 0, 0, 0⟩, 0)
  else (q, 2)
 else (q, 1)
theorem Xgy (q : Xah) (p : Xaa) (hl : q.Held.length ≤ 1048576) : Xdr q p = some (qin q p) := by
 have hm : maxLen = 9223372036854775807 := rfl
 unfold Xdr qin
 rw [Xg0 q hl, Xaf, Xfc, Xaf, Xl3]
 cases hok : Xap q with
 | false => rfl
 | true =>
  have hq := Xaq hok
  have hc := Xdv hq.2.2.2.2.2.1
  rw [Xfg, if_pos rfl, Xgo, Xaf, Xl3]
  cases hpk : Xas p with
  | false => rfl
  | true =>
   rw [Xfg, if_pos rfl, Xl3]
   cases hb : q.Begun with
   | false => rfl
   | true =>
    rw [Xfg, if_pos rfl, Xcv, Xaf, Xqs, Xaf]
    generalize hg : Xak q.Next p.Seq = g
    by_cases h1 : g ≥ 40 ∨ g < -40
    ·
     rw [if_pos h1, Xa1 (by simpa using h1), Xc9 _ hc.2.1, Xaf]
    rw [if_neg h1, Xa0 (by simp; omega)]
    by_cases h2 : g < 0
    ·
     rw [if_pos h2, Xcx h2, Xc9 _ hc.1, Xaf]
    rw [if_neg h2, Xck h2, Xjy, Xaf, hok, Bool.true_and]
    cases h3 : Xbk p.Seq q.Held with
    | true => rw [Xfg, if_pos rfl, Xc9 _ hc.2.2.1, Xaf]
    | false =>
     rw [Xg8, if_neg (by decide)]
     by_cases h4 : q.Held.length < 24
     ·
      rw [if_pos h4, syA, Xhd q p hq.2.2.1, Xaf]; unfold Xt3; rw [hb]
     rw [if_neg h4, snA]
     obtain ⟨l1, l2, l3⟩ := Xq2 q (by omega) hq.2.2.1
     rw [l1, Xaf, Xc9 _ hc.2.2.2.1, Xaf, rqA, rqA, Xfe, Xaf, wkA, rqA, Int.toNat_natCast, show (Xd7 q + 1).toNat = (Xd7 q).toNat + 1 by omega, Xhf]
     rw [Xci (by simp only [List.length_nil, List.length_drop]; omega), Xcv, Xaf, Xb8, Xaf, List.nil_append, Xrb]
     have hcut : (⟨true, Xaw (q.Held.getD (Xd7 q).toNat Xad).Seq 1, 0, q.Held.drop ((Xd7 q).toNat + 1), q.Late, q.Far, q.Twice, Xk5 q.Over, q.Lost⟩ : Xah) = Xhr q := by unfold Xhr; rw [hb]
     rw [hcut]
     have hn : Xaw (q.Held.getD (Xd7 q).toNat Xad).Seq 1 = (Xhr q).Next := rfl
     rw [hn]
     by_cases h5 : 0 ≤ Xak (Xhr q).Next p.Seq ∧ Xak (Xhr q).Next p.Seq ≤ 39
     ·
      rw [if_pos h5, if_pos h5, Xhd (Xhr q) p (by unfold Xhr; simp only [List.length_drop]; omega), Xaf, Xaf]; rfl
     ·
      rw [if_neg h5, if_neg h5, Xaf]; unfold Xhr; rw [hb]
theorem Xmu {n a b : Int} (hn : 0 ≤ n ∧ n ≤ 65535) (ha : 0 ≤ a ∧ a ≤ 65535) (hb : 0 ≤ b ∧ b ≤ 65535) (h : Xak n a = Xak n b) : a = b := by
 unfold Xak at h
 rw [if_pos (show 0 ≤ n ∧ n ≤ 65535 ∧ 0 ≤ a ∧ a ≤ 65535 by omega), if_pos (show 0 ≤ n ∧ n ≤ 65535 ∧ 0 ≤ b ∧ b ≤ 65535 by omega)] at h
 repeat' split at h
 all_goals omega
theorem Xec (a b : Int) : 0 ≤ Xaw a b ∧ Xaw a b ≤ 65535 := by
 unfold Xaw; split <;> omega
theorem Xp4 (q : Xah) (p : Xaa) (hl : q.Held.length ≤ 24) (hn : 0 ≤ q.Next ∧ q.Next ≤ 65535) (hh : ∀ x ∈ q.Held, Xas x = true) (hp : Xas p = true) (hs : Xbk p.Seq q.Held = false) : Xbb q p = some (Xt3 q p) := by
 rw [Xob q p hl]
 unfold Xt3
 rw [Xqk]
 intro x hx e
 have h1 := (Xa2 x).1 (hh x hx)
 have h2 := (Xa2 p).1 hp
 have := Xmu hn (by omega) (by omega) e
 have : Xbk p.Seq q.Held = true := by
  unfold Xbk; rw [List.any_eq_true]; exact ⟨x, hx, by simpa using this⟩
 rw [hs] at this; cases this
theorem Xgu (q : Xah) (p : Xaa) (hl : q.Held.length ≤ 1048576) : Xdp q p = some (qin q p) := by
 have hm : maxLen = 9223372036854775807 := rfl
 unfold Xdp qin
 rw [Xfv q hl, Xaf, Xc0, Xaf, Xl3]
 cases hok : Xap q with
 | false => rfl
 | true =>
  have hq := Xaq hok
  have hc := Xdv hq.2.2.2.2.2.1
  rw [Xfg, if_pos rfl, Xgm, Xaf, Xl3]
  cases hpk : Xas p with
  | false => rfl
  | true =>
   rw [Xfg, if_pos rfl, Xl3]
   cases hb : q.Begun with
   | false =>
    unfold Xap at hok
    rw [if_neg (by simp [hb]), decide_eq_true_eq] at hok
    obtain ⟨z1, z2, z3, z4, z5, z6, z7, z8⟩ := hok
    rw [Xg8, if_neg (by decide), z2, z4, z5, z6, z7, z8]
   | true =>
    rw [Xfg, if_pos rfl, Xdi, Xaf, Xqs, Xaf]
    generalize hg : Xak q.Next p.Seq = g
    by_cases h1 : g ≥ 40 ∨ g < -40
    ·
     rw [if_pos h1, Xa1 (by simpa using h1), Xc2 _ hc.2.1, Xaf]
    rw [if_neg h1, Xa0 (by simp; omega)]
    by_cases h2 : g < 0
    ·
     rw [if_pos h2, Xcx h2, Xc2 _ hc.1, Xaf]
    rw [if_neg h2, Xck h2, Xjj, Xaf, hok, Bool.true_and]
    cases h3 : Xbk p.Seq q.Held with
    | true => rw [Xfg, if_pos rfl, Xc2 _ hc.2.2.1, Xaf]
    | false =>
     rw [Xg8, if_neg (by decide)]
     by_cases h4 : q.Held.length < 24
     ·
      rw [if_pos h4, Xa0 (by simp; omega), Xp4 q p hq.2.2.1 (by omega) hq.2.2.2.2.2.2 hpk h3, Xaf]
     rw [if_neg h4, Xa1 (by simp; omega)]
     obtain ⟨l2, l3⟩ := Xna q (by omega) hq.2.2.1
     rw [Xc2 _ hc.2.2.2.1, Xaf, Xmm q (by omega) hq.2.2.1, Xaf, rqA, Xdy, Xaf, wkA, rqA, Int.toNat_natCast, show (Xd7 q + 1).toNat = (Xd7 q).toNat + 1 by omega, Xhf]
     rw [Xdi, Xaf, Xbs, Xaf, Xrb]
     have hcut : (⟨true, Xaw (q.Held.getD (Xd7 q).toNat Xad).Seq 1, 0, q.Held.drop ((Xd7 q).toNat + 1), q.Late, q.Far, q.Twice, Xk5 q.Over, q.Lost⟩ : Xah) = Xhr q := by unfold Xhr; rw [hb]
     rw [hcut]
     have hn : Xaw (q.Held.getD (Xd7 q).toNat Xad).Seq 1 = (Xhr q).Next := rfl
     rw [hn]
     by_cases h5 : 0 ≤ Xak (Xhr q).Next p.Seq ∧ Xak (Xhr q).Next p.Seq ≤ 39
     ·
      have hs : Xbk p.Seq (Xhr q).Held = false := by
       rw [Bool.eq_false_iff] at h3 ⊢
       intro e; apply h3
       unfold Xbk at e ⊢
       rw [List.any_eq_true] at e ⊢
       obtain ⟨x, hx, e⟩ := e
       exact ⟨x, List.mem_of_mem_drop hx, e⟩
      rw [if_pos h5, if_pos h5, Xp4 (Xhr q) p (by unfold Xhr; simp only [List.length_drop]; omega) (Xec _ _) (fun x hx => hq.2.2.2.2.2.2 x (List.mem_of_mem_drop hx)) hpk hs, Xaf, Xaf]
     ·
      rw [if_neg h5, if_neg h5, Xaf]; unfold Xhr; rw [hb]
theorem Xrx {n y : Int} {k : Nat} (hn : 0 ≤ n ∧ n ≤ 65535) (hy : 0 ≤ y ∧ y ≤ 65535) (h1 : (k : Int) ≤ Xak n y) (h2 : Xak n y < 41) : Xak (Xaw n k) y = Xak n y - k := by
 unfold Xak at h1 h2 ⊢
 unfold Xaw
 rw [if_pos (show 0 ≤ n ∧ n ≤ 65535 ∧ 0 ≤ y ∧ y ≤ 65535 by omega)] at h1 h2 ⊢
 have hk : (k : Int) ≤ 40 := by
  repeat' split at h1
  all_goals (repeat' split at h2)
  all_goals omega
 rw [if_pos (show 0 ≤ n ∧ n ≤ 65535 ∧ (0 : Int) ≤ (k : Int) ∧ (k : Int) ≤ 65535 by omega), if_pos (by omega)]
 repeat' split at h1
 all_goals (repeat' split at h2)
 all_goals (repeat' split)
 all_goals omega
theorem Xfh {n : Int} {k : Nat} (hn : 0 ≤ n ∧ n ≤ 65535) : ∀ {l : List Xaa} {Xdt : Int}, (k : Int) - 1 ≤ Xdt → Xbf n Xdt l = true → Xbf (Xaw n k) (Xdt - k) l = true
 | [], _, _, _ => rfl
 | p :: r, Xdt, hl, h => by
  rw [Xbf, Bool.and_eq_true, Bool.and_eq_true, decide_eq_true_eq] at h ⊢
  have hp := (Xa2 p).1 h.1.1
  have e := Xrx (k := k) hn (y := p.Seq) (by omega) (by omega) (by omega)
  rw [e]
  exact ⟨⟨h.1.1, by omega⟩, Xfh hn (by omega) h.2⟩
theorem Xhj {n : Int} : ∀ {l : List Xaa} {Xdt : Int} (k : Nat) (hk : k < l.length), Xbf n Xdt l = true → Xdt < Xak n (l.getD k Xad).Seq ∧ Xbf n (Xak n (l.getD k Xad).Seq) (l.drop (k + 1)) = true ∧ Xak n (l.getD k Xad).Seq < 40
 | [], _, k, hk, _ => by simp at hk
 | p :: r, Xdt, 0, _, h => by
  rw [Xbf, Bool.and_eq_true, Bool.and_eq_true, decide_eq_true_eq] at h
  exact ⟨h.1.2.1, h.2, h.1.2.2⟩
 | p :: r, Xdt, k + 1, hk, h => by
  rw [Xbf, Bool.and_eq_true, Bool.and_eq_true, decide_eq_true_eq] at h
  obtain ⟨h1, h2, h3⟩ := Xhj (l := r) k (by simpa using hk) h.2
  exact ⟨by rw [List.getD_cons_succ]; omega, by rw [List.getD_cons_succ]; exact h2, by rw [List.getD_cons_succ]; exact h3⟩
theorem Xmv {n : Int} {p : Xaa} {k : Nat} (hn : 0 ≤ n ∧ n ≤ 65535) (hp : Xas p = true) (h : Xak n p.Seq = k) (hk : k ≤ 40) : p.Seq = Xaw n k := by
 have h2 := (Xa2 p).1 hp
 unfold Xak at h
 unfold Xaw
 rw [if_pos (show 0 ≤ n ∧ n ≤ 65535 ∧ 0 ≤ p.Seq ∧ p.Seq ≤ 65535 by omega)] at h
 rw [if_pos (by omega)]
 repeat' split at h
 all_goals omega
theorem Xpp {n : Int} {k : Nat} (hn : 0 ≤ n ∧ n ≤ 65535) (hk : k ≤ 40) : Xaw (Xaw n k) 1 = Xaw n ((k + 1 : Nat) : Int) := by
 unfold Xaw
 rw [if_pos (show 0 ≤ n ∧ n ≤ 65535 ∧ (0 : Int) ≤ (k : Int) ∧ (k : Int) ≤ 65535 by omega), if_pos (by omega), if_pos (by omega)]
 omega
theorem Xhv {n : Int} (h : cnt n = true) : cnt (Xk5 n) = true := by
 unfold cnt Xk5 at *
 simp only [decide_eq_true_eq] at *
 split <;> omega
theorem Xav {q : Xah} (hb : q.Begun = true) : Xap q = true ↔ (0 ≤ q.Next ∧ q.Next ≤ 65535 ∧ 0 ≤ q.Age ∧ q.Age ≤ 20 ∧ q.Held.length ≤ 24) ∧ Xbf q.Next (-1) q.Held = true ∧ Xrv q = true := by
 unfold Xap
 rw [if_pos hb, Bool.and_eq_true, Bool.and_eq_true, decide_eq_true_eq]
theorem Xil {q : Xah} (h1 : cnt q.Late = true) (h2 : cnt q.Far = true) (h3 : cnt q.Twice = true) (h4 : cnt q.Over = true) (h5 : cnt q.Lost = true) : Xrv q = true := by
 unfold Xrv; rw [h1, h2, h3, h4, h5]; rfl
theorem Xmh {p : Xaa} (h : Xas p = true) : Xbf p.Seq (-1) [p] = true := by
 have h2 := (Xa2 p).1 h
 have e : Xak p.Seq p.Seq = 0 := by
  unfold Xak; rw [if_pos (by omega), if_neg (by omega), if_neg (by omega)]; omega
 rw [Xbf, e, h]; rfl
theorem Xmi {n g : Int} {p : Xaa} (hp : Xas p = true) (hg : Xak n p.Seq = g) (h40 : g < 40) : ∀ {l : List Xaa} {Xdt : Int}, Xdt < g → (∀ x ∈ l, Xak n x.Seq ≠ g) → Xbf n Xdt l = true → Xbf n Xdt (Xop n g p l) = true
 | [], Xdt, hl, _, _ => by
  rw [Xop, Xbf, hg, hp]; simp [Xbf, hl, h40]
 | x :: r, Xdt, hl, hne, h => by
  have h0 := h
  rw [Xbf, Bool.and_eq_true, Bool.and_eq_true, decide_eq_true_eq] at h
  rw [Xop]
  have h1 := hne x (by simp)
  by_cases e : g < Xak n x.Seq
  ·
   rw [if_pos e, Xbf, hg, Bool.and_eq_true, Bool.and_eq_true, decide_eq_true_eq]
   refine ⟨⟨hp, hl, h40⟩, ?_⟩
   rw [Xbf, Bool.and_eq_true, Bool.and_eq_true, decide_eq_true_eq]
   exact ⟨⟨h.1.1, e, h.1.2.2⟩, h.2⟩
  ·
   rw [if_neg e, Xbf, Bool.and_eq_true, Bool.and_eq_true, decide_eq_true_eq]
   exact ⟨⟨h.1.1, h.1.2⟩, Xmi hp hg h40 (by omega) (fun y hy => hne y (by simp [hy])) h.2⟩
theorem Xvd {q : Xah} {p : Xaa} (hn : 0 ≤ q.Next ∧ q.Next ≤ 65535) (hh : ∀ x ∈ q.Held, Xas x = true) (hp : Xas p = true) (hs : Xbk p.Seq q.Held = false) : ∀ x ∈ q.Held, Xak q.Next x.Seq ≠ Xak q.Next p.Seq := by
 intro x hx e
 have h1 := (Xa2 x).1 (hh x hx)
 have h2 := (Xa2 p).1 hp
 have := Xmu hn (by omega) (by omega) e
 have : Xbk p.Seq q.Held = true := by
  unfold Xbk; rw [List.any_eq_true]; exact ⟨x, hx, by simpa using this⟩
 rw [hs] at this; cases this
theorem Xse {q : Xah} {p : Xaa} (hb : q.Begun = true) (h : Xap q = true) (hp : Xas p = true) (hs : Xbk p.Seq q.Held = false) (hl : q.Held.length < 24) (hg : 0 ≤ Xak q.Next p.Seq ∧ Xak q.Next p.Seq < 40) : Xap (Xt3 q p) = true := by
 have hq := Xaq h
 have h' := (Xav hb).1 h
 refine (Xav (q := Xt3 q p) hb).2 ⟨⟨h'.1.1, h'.1.2.1, h'.1.2.2.1, h'.1.2.2.2.1, ?_⟩, ?_, ?_⟩
 ·
  show (Xop _ _ _ _).length ≤ 24
  rw [Xqh]; omega
 ·
  exact Xmi hp rfl hg.2 (by omega) (Xvd (by omega) hq.2.2.2.2.2.2 hp hs) h'.2.1
 ·
  exact h'.2.2
theorem Xuc {q : Xah} (hb : q.Begun = true) (h : Xap q = true) (hl : q.Held.length = 24) : Xap (Xhr q) = true ∧ (Xhr q).Held.length < 24 := by
 have hq := Xaq h
 have hc := Xdv hq.2.2.2.2.2.1
 have h' := (Xav hb).1 h
 obtain ⟨l2, l3⟩ := Xna q (by omega) hq.2.2.1
 have hlen : (Xhr q).Held.length < 24 := by show (q.Held.drop _).length < 24; rw [List.length_drop]; omega
 obtain ⟨d1, d2, d3⟩ := Xhj (Xd7 q).toNat (by omega) h'.2.1
 have hpk := hq.2.2.2.2.2.2 (q.Held.getD (Xd7 q).toNat Xad) (by rw [Xkx _ _ (by omega)]; exact List.getElem_mem _)
 refine ⟨(Xav (q := Xhr q) hb).2 ⟨⟨(Xec _ _).1, (Xec _ _).2, by show (0 : Int) ≤ 0; decide, by show (0 : Int) ≤ 20; decide, by omega⟩, ?_, Xil (q := Xhr q) hc.1 hc.2.1 hc.2.2.1 (Xhv hc.2.2.2.1) hc.2.2.2.2⟩, hlen⟩
 show Xbf (Xaw (q.Held.getD (Xd7 q).toNat Xad).Seq 1) (-1) (q.Held.drop ((Xd7 q).toNat + 1)) = true
 generalize q.Held.getD (Xd7 q).toNat Xad = x at d1 d2 d3 hpk ⊢
 obtain ⟨k, hk⟩ : ∃ k : Nat, Xak q.Next x.Seq = k := ⟨(Xak q.Next x.Seq).toNat, by omega⟩
 rw [Xmv (by omega) hpk hk (by omega), Xpp (by omega) (by omega)]
 rw [hk] at d2
 have := Xfh (k := k + 1) (by omega) (by omega) d2
 rw [show ((k : Int)) - ((k + 1 : Nat) : Int) = -1 by omega] at this
 exact this
theorem Xsg {q : Xah} {p : Xaa} (h : Xap q = true) : Xap (qin q p).1 = true := by
 have hq := Xaq h
 have hc := Xdv hq.2.2.2.2.2.1
 unfold qin
 rw [if_pos h]
 by_cases hp : Xas p = true
 ·
  rw [if_pos hp]
  have hpk := (Xa2 p).1 hp
  by_cases hb : q.Begun = true
  ·
   rw [if_pos hb]
   have h' := (Xav hb).1 h
   by_cases h1 : Xak q.Next p.Seq ≥ 40 ∨ Xak q.Next p.Seq < -40
   ·
    rw [if_pos h1]
    exact (Xav (q := ⟨q.Begun, p.Seq, 0, [p], q.Late, Xk5 q.Far, q.Twice, q.Over, q.Lost⟩) hb).2 ⟨⟨by simp only; omega, by simp only; omega, Int.le_refl _, (by decide : (0 : Int) ≤ 20), by simp⟩, Xmh hp, Xil hc.1 (Xhv hc.2.1) hc.2.2.1 hc.2.2.2.1 hc.2.2.2.2⟩
   rw [if_neg h1]
   by_cases h2 : Xak q.Next p.Seq < 0
   ·
    rw [if_pos h2]
    exact (Xav (q := ⟨q.Begun, q.Next, q.Age, q.Held, Xk5 q.Late, q.Far, q.Twice, q.Over, q.Lost⟩) hb).2 ⟨h'.1, h'.2.1, Xil (Xhv hc.1) hc.2.1 hc.2.2.1 hc.2.2.2.1 hc.2.2.2.2⟩
   rw [if_neg h2]
   by_cases h3 : Xbk p.Seq q.Held = true
   ·
    rw [if_pos h3]
    exact (Xav (q := ⟨q.Begun, q.Next, q.Age, q.Held, q.Late, q.Far, Xk5 q.Twice, q.Over, q.Lost⟩) hb).2 ⟨h'.1, h'.2.1, Xil hc.1 hc.2.1 (Xhv hc.2.2.1) hc.2.2.2.1 hc.2.2.2.2⟩
   rw [if_neg h3]
   have h3' : Xbk p.Seq q.Held = false := by simpa using h3
   by_cases h4 : q.Held.length < 24
   ·
    rw [if_pos h4]
    exact Xse hb h hp h3' h4 (by omega)
   rw [if_neg h4]
   obtain ⟨c1, c2⟩ := Xuc hb h (by omega)
   by_cases h5 : 0 ≤ Xak (Xhr q).Next p.Seq ∧ Xak (Xhr q).Next p.Seq ≤ 39
   ·
    rw [if_pos h5]
    have hs : Xbk p.Seq (Xhr q).Held = false := by
     rw [Bool.eq_false_iff] at h3' ⊢
     intro e; apply h3'
     unfold Xbk at e ⊢
     rw [List.any_eq_true] at e ⊢
     obtain ⟨x, hx, e⟩ := e
     exact ⟨x, List.mem_of_mem_drop hx, e⟩
    exact Xse hb c1 hp hs c2 (by omega)
   ·
    rw [if_neg h5]; exact c1
  ·
   rw [if_neg hb]
   exact (Xav (q := ⟨true, p.Seq, 0, [p], 0, 0, 0, 0, 0⟩) rfl).2 ⟨⟨by simp only; omega, by simp only; omega, Int.le_refl _, (by decide : (0 : Int) ≤ 20), by simp⟩, Xmh hp, rfl⟩
 ·
  rw [if_neg hp]; exact h
theorem Xos {n : Int} (hn : 0 ≤ n ∧ n ≤ 65535) : ∀ {l : List Xaa} {i : Nat}, i + l.length ≤ 24 → Xbf n ((i : Int) - 1) l = true → 0 < Xaz n i l → i < Xaz n i l ∧ Xbf n ((Xaz n i l : Int) - 1) (l.drop (Xaz n i l - i)) = true
 | [], i, _, _, h => by simp [Xaz] at h
 | p :: r, i, hi, h, h0 => by
  rw [Xaz] at h0 ⊢
  rw [Xbf, Bool.and_eq_true, Bool.and_eq_true, decide_eq_true_eq] at h
  have hp := (Xa2 p).1 h.1.1
  have hl : (p :: r).length = r.length + 1 := rfl
  by_cases e : p.Seq = Xaw n i
  ·
   rw [if_pos e] at h0 ⊢
   have hg : Xak n p.Seq = i := (Xrw (by omega) (by omega) (by omega)).2 e
   rw [hg] at h
   by_cases e2 : p.Last = true
   ·
    rw [if_pos e2]
    refine ⟨by omega, ?_⟩
    rw [show i + 1 - i = 1 by omega, List.drop_succ_cons, List.drop_zero, show ((i + 1 : Nat) : Int) - 1 = i by omega]
    exact h.2
   ·
    rw [if_neg e2] at h0 ⊢
    obtain ⟨a, b⟩ := Xos hn (l := r) (i := i + 1) (by omega) (by rw [show ((i + 1 : Nat) : Int) - 1 = i by omega]; exact h.2) h0
    refine ⟨by omega, ?_⟩
    rw [show Xaz n (i + 1) r - i = (Xaz n (i + 1) r - (i + 1)) + 1 by omega, List.drop_succ_cons]
    exact b
  ·
   rw [if_neg e] at h0; omega
theorem Xql {q : Xah} {w : Int} (h : Xap q = true) : Xap (Xeo q w).1 = true := by
 have hq := Xaq h
 have hc := Xdv hq.2.2.2.2.2.1
 unfold Xeo
 by_cases hw : Xap q = true ∧ 0 ≤ w ∧ w ≤ 20
 ·
  rw [if_pos hw]
  cases hb : q.Begun with
  | false =>
   have h2 := h
   unfold Xap at h2
   rw [if_neg (by simp [hb]), decide_eq_true_eq] at h2
   obtain ⟨z1, z2, z3, z4, z5, z6, z7, z8⟩ := h2
   have hh : q.Held = [] := List.length_eq_zero_iff.1 z3
   rw [hh, if_neg (by simp [Xaz]), if_pos (show ([] : List Xaa).length = 0 from rfl)]
   unfold Xap
   rw [if_neg (by simp), decide_eq_true_eq]
   exact ⟨z1, rfl, rfl, z4, z5, z6, z7, z8⟩
  | true =>
   have h' := (Xav hb).1 h
   have hr := Xh4 q.Next q.Held 0
   by_cases h0 : 0 < Xaz q.Next 0 q.Held
   ·
    rw [if_pos h0]
    obtain ⟨_, b⟩ := Xos (by omega) (by omega) (by exact h'.2.1) h0
    have := Xfh (k := Xaz q.Next 0 q.Held) (by omega) (by omega) b
    rw [Nat.sub_zero, show ((Xaz q.Next 0 q.Held : Int)) - 1 - (Xaz q.Next 0 q.Held : Int) = -1 by omega] at this
    exact (Xav rfl).2 ⟨⟨(Xec _ _).1, (Xec _ _).2, Int.le_refl _, (by decide : (0 : Int) ≤ 20), by simp only [List.length_drop]; omega⟩, this, Xil hc.1 hc.2.1 hc.2.2.1 hc.2.2.2.1 hc.2.2.2.2⟩
   rw [if_neg h0]
   by_cases h1 : q.Held.length = 0
   ·
    rw [if_pos h1]
    exact (Xav rfl).2 ⟨⟨h'.1.1, h'.1.2.1, Int.le_refl _, (by decide : (0 : Int) ≤ 20), h'.1.2.2.2.2⟩, h'.2.1, h'.2.2⟩
   rw [if_neg h1]
   by_cases h2 : q.Age < w
   ·
    rw [if_pos h2]
    exact (Xav rfl).2 ⟨⟨h'.1.1, h'.1.2.1, by simp only; omega, by simp only; omega, h'.1.2.2.2.2⟩, h'.2.1, h'.2.2⟩
   rw [if_neg h2]
   have hcn : Xrv (⟨true, Xk6 q, 0, q.Held.drop (Xd5 q.Next q.Held), q.Late, q.Far, q.Twice, q.Over, Xk5 q.Lost⟩ : Xah) = true := Xil hc.1 hc.2.1 hc.2.2.1 hc.2.2.2.1 (Xhv hc.2.2.2.2)
   have hs := Xnn q.Next q.Held
   unfold Xk6 at hcn ⊢
   generalize Xd5 q.Next q.Held = s at hs hcn ⊢
   by_cases h3 : s < q.Held.length
   ·
    rw [if_pos h3] at hcn ⊢
    have hpk := hq.2.2.2.2.2.2 (q.Held.getD s Xad) (by rw [Xkx _ _ h3]; exact List.getElem_mem _)
    have hpk' := (Xa2 _).1 hpk
    obtain ⟨d1, d2, d3⟩ := Xhj s h3 h'.2.1
    obtain ⟨k, hk⟩ : ∃ k : Nat, Xak q.Next (q.Held.getD s Xad).Seq = k := ⟨(Xak q.Next (q.Held.getD s Xad).Seq).toNat, by omega⟩
    have hd : Xbf q.Next ((k : Int) - 1) (q.Held.drop s) = true := by
     rw [Xue _ s h3 Xad, Xbf, Bool.and_eq_true, Bool.and_eq_true, decide_eq_true_eq]
     exact ⟨⟨hpk, by omega, by omega⟩, d2⟩
    have := Xfh (k := k) (by omega) (by omega) hd
    rw [show (k : Int) - 1 - k = -1 by omega, ← Xmv (by omega) hpk hk (by omega)] at this
    exact (Xav rfl).2 ⟨⟨by simp only; omega, by simp only; omega, Int.le_refl _, (by decide : (0 : Int) ≤ 20), by simp only [List.length_drop]; omega⟩, this, hcn⟩
   ·
    rw [if_neg h3] at hcn ⊢
    have hd : q.Held.drop s = [] := List.drop_eq_nil_of_le (by omega)
    rw [hd] at hcn ⊢
    exact (Xav rfl).2 ⟨⟨(Xec _ _).1, (Xec _ _).2, Int.le_refl _, (by decide : (0 : Int) ≤ 20), by simp⟩, rfl, hcn⟩
 ·
  rw [if_neg hw]; exact h
theorem Xfl (c : Xat) (l : List Int) (hc : Xel c) (hl : 0 < l.length) (hl2 : l.length ≤ 1000) : ∃ x c', Xb1 c l = some (x, c') ∧ x ∈ l ∧ Xel c' := by
 unfold Xb1
 obtain ⟨x, c', e, a, b, _, h⟩ := Xay c l.length hc
 have b' := b (by omega)
 rw [e, Xaf]
 simp only
 rw [rqA]
 refine ⟨_, _, rfl, ?_, h⟩
 rw [Xkx l _ (by omega)]; exact List.getElem_mem _
theorem Xlr (c : Xat) (n : Int) (hc : Xel c) (h0 : 0 ≤ n) (h1 : n ≤ 5000) : ∃ s c', Xeq c n = some (s, c') ∧ (s.size : Int) = n ∧ Xel c' := by
 have hm : maxLen = 9223372036854775807 := rfl
 unfold Xeq
 rw [snA, Xaf]
 obtain ⟨o, h, h2, h3⟩ := Xgf (f := Xd2 n) (fun v => 0 ≤ v.1 ∧ v.1 ≤ n ∧ Xel ⟨v.2.1, v.2.2.1, v.2.2.2.1⟩ ∧ (v.2.2.2.2.length : Int) = v.1) (fun v => (n - v.1).toNat) (fun _ o => (o.1.length : Int) = n ∧ Xel ⟨o.2.1, o.2.2.1, o.2.2.2⟩) (by
  intro ⟨i, b, j, h, l⟩ ⟨h1, h2, h3, h4⟩
  unfold Xd2
  simp only at h1 h2 h3 h4 ⊢
  by_cases hi : i < n
  ·
   obtain ⟨x, c', ex, x0, x1, hx⟩ := Xcf _ h3
   rw [Xcx hi, ex, Xaf, Xci (by rw [hm]; simp only [List.length_singleton]; omega)]
   refine .inr ⟨_, rfl, ?_, ?_, fun _ h => h⟩
   ·
    rw [wkA]
    exact ⟨by omega, by omega, hx, by simp; omega⟩
   ·
    rw [wkA]; omega
  ·
   rw [Xck hi]
   exact .inl ⟨_, rfl, by simp only; omega, h3⟩) (0, c.b_, c.i_, c.h_, []) ⟨by simp, h0, hc, by simp⟩
 rw [h, Xaf]
 exact ⟨_, _, rfl, by rw [strOfNums_size]; exact h2, h3⟩
theorem Xl9 (c : Xat) (hc : Xel c) : ∃ x c', Xff c = some (x, c') ∧ 0 ≤ x ∧ x ≤ 65535 ∧ Xel c' := by
 unfold Xff
 obtain ⟨b, c1, e1, h1⟩ := Xch c 3 hc
 rw [e1, Xaf]
 cases b with
 | true =>
  obtain ⟨x, c2, e2, hx, h2⟩ := Xfl c1 [0, 65535, 65530, 65520, 32767, 32768] h1 (by decide) (by decide)
  simp only [Xfg]
  rw [e2, Xaf]
  refine ⟨_, _, rfl, ?_, ?_, h2⟩
  all_goals (simp only [List.mem_cons, List.not_mem_nil, or_false] at hx; simp only; omega)
 | false =>
  obtain ⟨x, c2, e2, a, b, _, h2⟩ := Xay c1 65536 h1
  have b' := b (by omega)
  simp only [Xg8]
  rw [e2, Xaf]
  exact ⟨_, _, rfl, a, by simp only; omega, h2⟩
theorem Xf7 (c : Xat) (n : Int) (hc : Xel c) (h0 : 0 ≤ n) (h1 : n ≤ 65535) : ∃ p c', Xcw c n = some (p, c') ∧ Xas p = true ∧ Xel c' := by
 unfold Xcw
 obtain ⟨x, c1, e1, a1, b1, _, k1⟩ := Xay c 14 hc
 have b1' := b1 (by omega)
 rw [e1, Xaf]
 obtain ⟨y, c2, e2, a2, b2, _, k2⟩ := Xay c1 16 k1
 simp only
 rw [e2, Xaf]
 have key : ∃ d c3, (sel (y == 0) (bnd (Xar c2 100) fun q4 => some (Xaj .i64 (q4.1 - 50), q4.2.b_, q4.2.i_, q4.2.h_)) (sel (y == 1) (bnd (Xb1 c2 ([39, 40, (-40), (-41), (-1)])) fun q5 => some (q5.1, q5.2.b_, q5.2.i_, q5.2.h_)) (some (Xaj .i64 (x - 2), c2.b_, c2.i_, c2.h_)))) = some (d, c3) ∧ -50 ≤ d ∧ d ≤ 50 ∧ Xel ⟨c3.1, c3.2.1, c3.2.2⟩ := by
  by_cases hy : y = 0
  ·
   rw [Xa1 (by simpa using hy)]
   obtain ⟨z, c3, e3, a3, b3, _, k3⟩ := Xay c2 100 k2
   have b3' := b3 (by omega)
   rw [e3, Xaf, wkA]
   exact ⟨_, _, rfl, by simp only; omega, by simp only; omega, k3⟩
  ·
   rw [Xa0 (by simpa using hy)]
   by_cases hy1 : y = 1
   ·
    rw [Xa1 (by simpa using hy1)]
    obtain ⟨z, c3, e3, hz, k3⟩ := Xfl c2 [39, 40, (-40), (-41), (-1)] k2 (by decide) (by decide)
    rw [e3, Xaf]
    refine ⟨_, _, rfl, ?_, ?_, k3⟩
    all_goals (simp only [List.mem_cons, List.not_mem_nil, or_false] at hz; simp only; omega)
   ·
    rw [Xa0 (by simpa using hy1), wkA]
    exact ⟨_, _, rfl, by omega, by omega, k2⟩
 obtain ⟨d, c3, e3, d0, d1, k3⟩ := key
 simp only at e3 ⊢
 rw [e3, Xaf, Xci (by decide)]
 obtain ⟨f1, c4, e4, k4⟩ := Xch _ 3 k3
 rw [e4, Xaf]
 obtain ⟨f2, c5, e5, k5⟩ := Xch _ 3 k4
 simp only
 rw [e5, Xaf]
 obtain ⟨z, c6, e6, a6, b6, _, k6⟩ := Xay _ 3 k5
 have b6' := b6 (by omega)
 simp only
 rw [e6, Xaf, wkA (e := 1 + z)]
 obtain ⟨s, c7, e7, a7, k7⟩ := Xlr _ (1 + z) k6 (by omega) (by omega)
 simp only
 rw [e7, Xaf, wkA (e := n + 65536), wkA, Xek (by omega)]
 refine ⟨_, _, rfl, ?_, k7⟩
 rw [Xa2]
 simp only
 omega
theorem Xum (n : Int) (h : cnt n = true) : Xk5 n ≤ n + 1 := by
 unfold cnt at h; unfold Xk5
 simp only [decide_eq_true_eq] at h
 split <;> omega
theorem Xor {q : Xah} {p : Xaa} (h : Xap q = true) : (qin q p).1.Twice ≤ q.Twice + 1 := by
 have hc := Xdv (Xaq h).2.2.2.2.2.1
 have h1 := Xum _ hc.2.2.1
 have h2 : 0 ≤ q.Twice := by have := hc.2.2.1; unfold cnt at this; simp only [decide_eq_true_eq] at this; omega
 unfold qin Xt3 Xhr
 repeat' split
 all_goals (simp only; omega)
theorem Xk8 (q : Xah) (w : Int) : (Xeo q w).1.Twice = q.Twice := by
 unfold Xeo
 repeat' split
 all_goals rfl
theorem Xkh (c : Xat) (hc : Xel c) : ∃ q c', Xd4 c = some (q, c') ∧ Xap q = true ∧ q.Twice ≤ 60 ∧ Xel c' := by
 unfold Xd4
 obtain ⟨n, c1, e1, a1, b1, k1⟩ := Xl9 c hc
 rw [e1, Xaf]
 obtain ⟨m, c2, e2, a2, b2, _, k2⟩ := Xay c1 30 k1
 have b2' := b2 (by omega)
 simp only
 rw [e2, Xaf]
 obtain ⟨f, c3, e3, k3⟩ := Xch c2 6 k2
 simp only
 rw [e3, Xaf]
 have key : ∃ t : Int × List Int × Int × Int, sel f (some (Xaj .i64 (m + 30), c3.b_, c3.i_, c3.h_)) (some (m, c3.b_, c3.i_, c3.h_)) = some t ∧ 0 ≤ t.1 ∧ t.1 ≤ 59 ∧ Xel ⟨t.2.1, t.2.2.1, t.2.2.2⟩ := by
  rw [wkA]
  cases f with
  | true => exact ⟨_, rfl, by simp only; omega, by simp only; omega, k3⟩
  | false => exact ⟨_, rfl, by simp only; omega, by simp only; omega, k3⟩
 obtain ⟨t, e4, t0, t1, k4⟩ := key
 simp only at e4 ⊢
 rw [e4, Xaf]
 obtain ⟨o, h, h2, h3, h4⟩ := Xgf (f := Xdm t) (fun v => 0 ≤ v.1 ∧ v.1 ≤ 65535 ∧ 0 ≤ v.2.1 ∧ v.2.1 ≤ 59 ∧ Xel ⟨v.2.2.1, v.2.2.2.1, v.2.2.2.2.1⟩ ∧ Xap (⟨v.2.2.2.2.2.1, v.2.2.2.2.2.2.1, v.2.2.2.2.2.2.2.1, v.2.2.2.2.2.2.2.2.2.2.2.2.2, v.2.2.2.2.2.2.2.2.1, v.2.2.2.2.2.2.2.2.2.1, v.2.2.2.2.2.2.2.2.2.2.1, v.2.2.2.2.2.2.2.2.2.2.2.1, v.2.2.2.2.2.2.2.2.2.2.2.2.1⟩ : Xah) = true ∧ v.2.2.2.2.2.2.2.2.2.2.1 ≤ v.2.1) (fun v => 60 - v.2.1.toNat)
  (fun _ o => Xap (⟨o.1, o.2.1, o.2.2.1, o.2.2.2.2.2.2.2.2.2.2.2, o.2.2.2.1, o.2.2.2.2.1, o.2.2.2.2.2.1, o.2.2.2.2.2.2.1, o.2.2.2.2.2.2.2.1⟩ : Xah) = true ∧ o.2.2.2.2.2.1 ≤ 60 ∧ Xel ⟨o.2.2.2.2.2.2.2.2.1, o.2.2.2.2.2.2.2.2.2.1, o.2.2.2.2.2.2.2.2.2.2.1⟩) (by
  intro ⟨nx, i, cb, ci, ch, qb, qn, qa, ql, qf, qt, qo, qs, qh⟩ ⟨h1, h2, h3, h4, h5, h6, h7⟩
  unfold Xdm
  simp only at h1 h2 h3 h4 h5 h6 h7 ⊢
  by_cases hi : i < t.1
  ·
   rw [Xcx hi]
   obtain ⟨p, c5, e5, hp, k5⟩ := Xf7 _ nx h5 h1 h2
   rw [e5, Xaf]
   simp only
   have hl := (Xaq h6).2.2.1
   rw [Xgy _ p (by omega), Xaf]
   generalize hq1 : (⟨qb, qn, qa, qh, ql, qf, qt, qo, qs⟩ : Xah) = q1 at h6 hl ⊢
   have ht1 : q1.Twice = qt := by rw [← hq1]
   have ok2 := Xsg (p := p) h6
   have tw2 := Xor (p := p) h6
   generalize qin q1 p = r2 at ok2 tw2 ⊢
   obtain ⟨q2, r⟩ := r2
   simp only at ok2 tw2 ⊢
   obtain ⟨f1, c6, e6, k6⟩ := Xch _ 12 k5
   rw [e6, Xaf]
   simp only
   have step : ∃ (c7 : Xat) (q3 : Xah), (sel f1 (bnd (Xar c6 3) fun q32 => bnd (Xbu q2 q32.1) fun q33 => some (q32.2.b_, q32.2.i_, q32.2.h_, q33.1.Begun, q33.1.Next, q33.1.Age, q33.1.Late, q33.1.Far, q33.1.Twice, q33.1.Over, q33.1.Lost, q33.1.Held)) (some (c6.b_, c6.i_, c6.h_, q2.Begun, q2.Next, q2.Age, q2.Late, q2.Far, q2.Twice, q2.Over, q2.Lost, q2.Held))) = some (c7.b_, c7.i_, c7.h_, q3.Begun, q3.Next, q3.Age, q3.Late, q3.Far, q3.Twice, q3.Over, q3.Lost, q3.Held) ∧ Xel c7 ∧ Xap q3 = true ∧ q3.Twice ≤ i + 1 := by
    cases f1 with
    | true =>
     obtain ⟨w, c7, e7, _, _, _, k7⟩ := Xay c6 3 k6
     rw [Xfg, e7, Xaf]
     simp only
     have := (Xaq ok2).2.2.1
     rw [Xf5 q2 w (by omega), Xaf]
     exact ⟨c7, (Xeo q2 w).1, rfl, k7, Xql ok2, by rw [Xk8]; omega⟩
    | false => exact ⟨c6, q2, rfl, k6, ok2, by omega⟩
   obtain ⟨c7, q3, e7, k7, ok3, tw3⟩ := step
   rw [e7, Xaf]
   simp only
   have hn3 := Xaq ok3
   have nxt : ∃ n2, sel q3.Begun (some q3.Next) (some nx) = some n2 ∧ 0 ≤ n2 ∧ n2 ≤ 65535 := by
    cases q3.Begun with
    | true => exact ⟨_, rfl, hn3.1, hn3.2.1⟩
    | false => exact ⟨_, rfl, h1, h2⟩
   obtain ⟨n2, e8, g0, g1⟩ := nxt
   rw [e8, Xaf]
   obtain ⟨f2, c8, e9, k8⟩ := Xch _ 9 k7
   rw [show (⟨c7.b_, c7.i_, c7.h_⟩ : Xat) = c7 from rfl, e9, Xaf, Xci (by decide), wkA (e := n2 + 20), Xek (by omega), wkA (e := i + 1)]
   right
   cases f2 with
   | true =>
    rw [Xfg, Xaf]
    exact ⟨_, rfl, ⟨by simp only; omega, by simp only; omega, by simp only; omega, by simp only; omega, k8, ok3, tw3⟩, by simp only; omega, fun _ h => h⟩
   | false =>
    rw [Xg8, Xaf]
    exact ⟨_, rfl, ⟨g0, g1, by simp only; omega, by simp only; omega, k8, ok3, tw3⟩, by simp only; omega, fun _ h => h⟩
  ·
   rw [Xck hi]
   exact .inl ⟨_, rfl, h6, by simp only; omega, h5⟩) (n, 0, t.2.1, t.2.2.1, t.2.2.2, false, 0, 0, 0, 0, 0, 0, 0, []) ⟨a1, b1, by simp, by simp, k4, rfl, by simp⟩
 rw [h, Xaf]
 exact ⟨_, _, rfl, h2, h3, h4⟩
theorem Xiz (b : List Int) (hb : b.length ≤ 1048576) : ∃ q l, Xct b = some (q, l) ∧ Xap q = true ∧ q.Twice ≤ 60 ∧ l.length ≤ 10 ∧ ∀ p ∈ l, Xas p = true := by
 have hm : maxLen = 9223372036854775807 := rfl
 unfold Xct
 obtain ⟨c, e, hc⟩ := Xhb b hb
 obtain ⟨q, c1, e1, hq, ht, hc1⟩ := Xkh c hc
 rw [e, Xaf, e1, Xaf]
 have hqn := Xaq hq
 obtain ⟨o, h, h2, h3⟩ := Xgf (f := Xdc (q, c1)) (fun v => 0 ≤ v.1 ∧ v.1 ≤ 10 ∧ Xel ⟨v.2.1, v.2.2.1, v.2.2.2.1⟩ ∧ (v.2.2.2.2.length : Int) = v.1 ∧ ∀ p ∈ v.2.2.2.2, Xas p = true) (fun v => 10 - v.1.toNat) (fun _ o => o.length ≤ 10 ∧ ∀ p ∈ o, Xas p = true) (by
  intro ⟨i, b, j, h, l⟩ ⟨h1, h2, h3, h4, h5⟩
  unfold Xdc
  simp only at h1 h2 h3 h4 h5 ⊢
  obtain ⟨x, c', ex, x0, x1, _, hx⟩ := Xay _ 9 h3
  have x1' := x1 (by omega)
  rw [ex, Xaf]
  simp only
  rw [wkA (e := 1 + x)]
  by_cases hi : i < 1 + x
  ·
   obtain ⟨p, c2, ey, hp, hy⟩ := Xf7 c' q.Next hx hqn.1 hqn.2.1
   rw [Xcx hi, ey, Xaf, Xci (by rw [hm]; simp only [List.length_singleton]; omega)]
   refine .inr ⟨_, rfl, ?_, ?_, fun _ h => h⟩
   ·
    rw [wkA]
    refine ⟨by omega, by omega, hy, by simp; omega, ?_⟩
    intro y hy
    rcases List.mem_append.1 hy with hy | hy
    ·
     exact h5 y hy
    ·
     rw [List.mem_singleton.1 hy]; exact hp
   ·
    rw [wkA]; omega
  ·
   rw [Xck hi]
   exact .inl ⟨_, rfl, by omega, h5⟩) (0, c1.b_, c1.i_, c1.h_, []) ⟨by simp, by simp, hc1, by simp, by simp⟩
 simp only
 rw [h, Xaf]
 exact ⟨_, _, rfl, hq, ht, h2, h3⟩
theorem Xem (l : List Xaa) (hl : l.length ≤ 1048600) : Xbl l l = some true := by
 unfold Xbl
 rw [Xa0 (by simp), Xsn l.length (f := Xby l l) (by
  intro i hi
  unfold Xby
  rw [syA, rqA, rqA, Xa0 (by simp), wkA]
  rfl) (by unfold Xby; rw [snA])]
 rfl
theorem Xdo (q : Xah) (h : q.Held.length ≤ 1048600) : Xbt q q = some true := by
 unfold Xbt
 simp only [beq_self_eq_true, Xfg, Xem q.Held h, Xaf]
theorem Xpm {q : Xah} {w : Int} (h : Xap q = true ∧ 0 ≤ w ∧ w ≤ 20) (h0 : 0 < Xaz q.Next 0 q.Held) : Xeo q w = (⟨q.Begun, Xaw q.Next (Xaz q.Next 0 q.Held), 0, q.Held.drop (Xaz q.Next 0 q.Held), q.Late, q.Far, q.Twice, q.Over, q.Lost⟩, q.Held.take (Xaz q.Next 0 q.Held), 1) := by
 unfold Xeo; rw [if_pos h, if_pos h0]
theorem Xpl {q : Xah} {w : Int} (h : Xap q = true ∧ 0 ≤ w ∧ w ≤ 20) (h0 : ¬ 0 < Xaz q.Next 0 q.Held) (h1 : q.Held.length = 0) : Xeo q w = (⟨q.Begun, q.Next, 0, q.Held, q.Late, q.Far, q.Twice, q.Over, q.Lost⟩, [], 0) := by
 unfold Xeo; rw [if_pos h, if_neg h0, if_pos h1]
theorem Xq7 {q : Xah} {w : Int} (h : Xap q = true ∧ 0 ≤ w ∧ w ≤ 20) (h0 : ¬ 0 < Xaz q.Next 0 q.Held) (h1 : ¬ q.Held.length = 0) (h2 : q.Age < w) : Xeo q w = (⟨q.Begun, q.Next, q.Age + 1, q.Held, q.Late, q.Far, q.Twice, q.Over, q.Lost⟩, [], 0) := by
 unfold Xeo; rw [if_pos h, if_neg h0, if_neg h1, if_pos h2]
theorem Xq6 {q : Xah} {w : Int} (h : Xap q = true ∧ 0 ≤ w ∧ w ≤ 20) (h0 : ¬ 0 < Xaz q.Next 0 q.Held) (h1 : ¬ q.Held.length = 0) (h2 : ¬ q.Age < w) : Xeo q w = (⟨q.Begun, Xk6 q, 0, q.Held.drop (Xd5 q.Next q.Held), q.Late, q.Far, q.Twice, q.Over, Xk5 q.Lost⟩, [], 2) := by
 unfold Xeo; rw [if_pos h, if_neg h0, if_neg h1, if_neg h2]
theorem Xsh {q : Xah} {w : Int} (h : ¬ (Xap q = true ∧ 0 ≤ w ∧ w ≤ 20)) : Xeo q w = (q, [], 0) := by
 unfold Xeo; rw [if_neg h]
theorem Xtr (q : Xah) (w : Int) (h : Xap q = true) : ((Xeo q w).2.2 = 1 ∧ 0 < (Xeo q w).2.1.length ∨ (Xeo q w).2.2 ≠ 1 ∧ (Xeo q w).2.1.length = 0) ∧ (Xeo q w).1.Held.length + (Xeo q w).2.1.length ≤ q.Held.length := by
 have hr := Xh4 q.Next q.Held 0
 by_cases hw : Xap q = true ∧ 0 ≤ w ∧ w ≤ 20
 ·
  by_cases h0 : 0 < Xaz q.Next 0 q.Held
  ·
   rw [Xpm hw h0]
   refine ⟨.inl ⟨rfl, ?_⟩, ?_⟩
   ·
    simp only [List.length_take]; omega
   ·
    simp only [List.length_take, List.length_drop]; omega
  by_cases h1 : q.Held.length = 0
  ·
   rw [Xpl hw h0 h1]
   exact ⟨.inr ⟨by simp, rfl⟩, Nat.le_refl _⟩
  by_cases h2 : q.Age < w
  ·
   rw [Xq7 hw h0 h1 h2]
   exact ⟨.inr ⟨by simp, rfl⟩, Nat.le_refl _⟩
  ·
   rw [Xq6 hw h0 h1 h2]
   exact ⟨.inr ⟨by simp, rfl⟩, by simp only [List.length_drop, List.length_nil]; omega⟩
 ·
  rw [Xsh hw]
  exact ⟨.inr ⟨by simp, rfl⟩, Nat.le_refl _⟩
theorem Xsf {q : Xah} {p : Xaa} (h : Xap q = true) (h0 : (qin q p).2 = 0) : qin (qin q p).1 p = (⟨(qin q p).1.Begun, (qin q p).1.Next, (qin q p).1.Age, (qin q p).1.Held, (qin q p).1.Late, (qin q p).1.Far, Xk5 (qin q p).1.Twice, (qin q p).1.Over, (qin q p).1.Lost⟩, 5) := by
 have ok := Xsg (p := p) h
 have hp : Xas p = true := by
  refine Classical.byContradiction fun hp => ?_
  unfold qin at h0; rw [if_pos h, if_neg hp] at h0; simp at h0
 have hpk := (Xa2 p).1 hp
 have key : (qin q p).1.Begun = true ∧ (0 ≤ Xak (qin q p).1.Next p.Seq ∧ Xak (qin q p).1.Next p.Seq < 40) ∧ Xbk p.Seq (qin q p).1.Held = true := by
  unfold qin at h0 ⊢
  rw [if_pos h, if_pos hp] at h0 ⊢
  by_cases hb : q.Begun = true
  ·
   rw [if_pos hb] at h0 ⊢
   by_cases h1 : Xak q.Next p.Seq ≥ 40 ∨ Xak q.Next p.Seq < -40
   ·
    rw [if_pos h1] at h0; simp at h0
   rw [if_neg h1] at h0 ⊢
   by_cases h2 : Xak q.Next p.Seq < 0
   ·
    rw [if_pos h2] at h0; simp at h0
   rw [if_neg h2] at h0 ⊢
   by_cases h3 : Xbk p.Seq q.Held = true
   ·
    rw [if_pos h3] at h0; simp at h0
   rw [if_neg h3] at h0 ⊢
   by_cases h4 : q.Held.length < 24
   ·
    rw [if_pos h4]
    refine ⟨hb, ⟨?_, ?_⟩, ?_⟩
    ·
     show 0 ≤ Xak q.Next p.Seq; omega
    ·
     show Xak q.Next p.Seq < 40; omega
    ·
     show Xbk p.Seq (Xop q.Next (Xak q.Next p.Seq) p q.Held) = true
     have : ∀ l : List Xaa, Xbk p.Seq (Xop q.Next (Xak q.Next p.Seq) p l) = true := by
      intro l
      induction l with
      | nil => simp [Xop, Xbk]
      | cons x r ih =>
       rw [Xop]
       split
       ·
        simp [Xbk]
       ·
        unfold Xbk at ih ⊢
        rw [List.any_cons, ih, Bool.or_true]
     exact this _
   ·
    rw [if_neg h4] at h0; simp at h0
  ·
   rw [if_neg hb]
   have e : Xak p.Seq p.Seq = 0 := by
    unfold Xak; rw [if_pos (by omega), if_neg (by omega), if_neg (by omega)]; omega
   exact ⟨rfl, ⟨by simp only; omega, by simp only; omega⟩, by simp [Xbk]⟩
 generalize (qin q p).1 = a at ok key ⊢
 obtain ⟨k1, k2, k3⟩ := key
 unfold qin
 rw [if_pos ok, if_pos hp, if_pos k1, if_neg (by omega), if_neg (by omega), if_pos k3]
theorem FnQueues {p0 : List Int} (h0 : p0.length ≤ maxLen ∧ ∀ y ∈ p0, (Lit.int .u8 y).wf = true) : Xe7 p0 = some true := by
 unfold Xe7
 rw [Xpf, Xaf]
 by_cases hb : (p0.length : Int) > 1048576
 ·
  rw [Xcx hb]
 rw [Xck hb]
 obtain ⟨q, l, e1, hq, ht, hl, hlp⟩ := Xiz p0 (by omega)
 obtain ⟨p, e2, hp, hp2⟩ := Xh7 p0 (by omega)
 rw [e1, Xaf, Xaf, e2, Xaf]
 have g : ∀ i, i < 12 → 0 ≤ p.getD i 0 ∧ p.getD i 0 < 10000 := fun i hi => by rw [Xkx p i (by omega)]; exact hp2 _ (List.getElem_mem _)
 obtain ⟨w, hw, w0, w1⟩ : ∃ w, (p.getD ((0 : Int).toNat) 0).tmod 3 = w ∧ 0 ≤ w ∧ w ≤ 2 := by
  rw [Int.toNat_zero, Xek (g 0 (by omega)).1]; exact ⟨_, rfl, by omega, by omega⟩
 obtain ⟨o, h, h2⟩ := Xgf (f := Xdl (q, l) p) (fun v => 0 ≤ v.1 ∧ v.1 ≤ l.length ∧ ∃ q : Xah, Xap q = true ∧ q.Twice ≤ 60 + v.1 ∧ v = (v.1, q.Begun, q.Next, q.Age, q.Late, q.Far, q.Twice, q.Over, q.Lost, q.Begun, q.Next, q.Age, q.Late, q.Far, q.Twice, q.Over, q.Lost, q.Held, q.Held)) (fun v => l.length - v.1.toNat) (fun _ o => o = .out ()) (by
  intro v ⟨h1, h2, q1, ok1, tw1, ev⟩
  generalize hi : v.1 = i at h1 h2 tw1 ev
  subst ev
  unfold Xdl
  simp only
  by_cases hil : i < l.length
  ·
   right
   have hl1 := (Xaq ok1).2.2.1
   rw [Xcx hil]
   simp only [Xtg]
   rw [rqA, rqA, Xgu _ _ (by simp only; omega), Xaf, rqA, rqA, Xgy _ _ (by simp only; omega), Xaf]
   have eta : (⟨(l.getD i.toNat Xad).Seq, (l.getD i.toNat Xad).First, (l.getD i.toNat Xad).Last, (l.getD i.toNat Xad).Bytes⟩ : Xaa) = l.getD i.toNat Xad := rfl
   have eta2 : (⟨q1.Begun, q1.Next, q1.Age, q1.Held, q1.Late, q1.Far, q1.Twice, q1.Over, q1.Lost⟩ : Xah) = q1 := rfl
   rw [eta, eta2]
   generalize l.getD i.toNat Xad = pk
   have ok2 := Xsg (p := pk) ok1
   have tw2 := Xor (p := pk) ok1
   have ag := fun e => Xsf (p := pk) ok1 e
   generalize qin q1 pk = r at ok2 tw2 ag ⊢
   obtain ⟨a, c⟩ := r
   simp only at ok2 tw2 ag ⊢
   have hl2 := (Xaq ok2).2.2.1
   have tc := Xdv (Xaq ok2).2.2.2.2.2.1
   rw [Xdo a (by omega), Xc0, ok2]
   simp only [bne_self_eq_false, Xg8, Xaf, Xfg]
   rw [snA, wkA (e := i + 1)]
   have step : ∃ q2 : Xah, Xap q2 = true ∧ q2.Twice ≤ 60 + (i + 1) ∧ (req ((12 : Int) ≠ 0) <| req (0 ≤ (i.tmod 12) ∧ (i.tmod 12) < p.length) <| req ((i.tmod 12).toNat < p.length) <| req ((3 : Int) ≠ 0) <|
     sel (((p.getD ((i.tmod 12).toNat) 0).tmod 3) == 0) (
     req (0 ≤ (0 : Int) ∧ (0 : Int) < p.length) <| req ((0 : Int).toNat < p.length) <| req ((3 : Int) ≠ 0) <|
     bnd (Xcr a ((p.getD ((0 : Int).toNat) 0).tmod 3)) fun q51 =>
     req (0 ≤ (0 : Int) ∧ (0 : Int) < p.length) <| req ((0 : Int).toNat < p.length) <| req ((3 : Int) ≠ 0) <|
     bnd (Xbu a ((p.getD ((0 : Int).toNat) 0).tmod 3)) fun q52 =>
     bnd (sel (q51.2.2 != q52.2.2) (some true) (bnd (Xbl q51.2.1 q52.2.1) fun q54 => sel q54 (bnd (Xbt q51.1 q52.1) fun q55 => sel q55 (bnd (Xbr q51.1) fun q56 => some (!q56)) (some true)) (some true))) fun v53 =>
     sel v53 (some (Lp.done (Ou.ret false))) (
     some (.go (i + 1, q51.1.Begun, q51.1.Next, q51.1.Age, q51.1.Late, q51.1.Far, q51.1.Twice, q51.1.Over, q51.1.Lost, q52.1.Begun, q52.1.Next, q52.1.Age, q52.1.Late, q52.1.Far, q52.1.Twice, q52.1.Over, q52.1.Lost, q51.1.Held, q52.1.Held)))) (
     some (.go (i + 1, a.Begun, a.Next, a.Age, a.Late, a.Far, a.Twice, a.Over, a.Lost, a.Begun, a.Next, a.Age, a.Late, a.Far, a.Twice, a.Over, a.Lost, a.Held, a.Held))) : Option (Lp (Int × Bool × Int × Int × Int × Int × Int × Int × Int × Bool × Int × Int × Int × Int × Int × Int × Int × (List Xaa) × (List Xaa)) (Ou Unit Bool))) =
     some (.go (i + 1, q2.Begun, q2.Next, q2.Age, q2.Late, q2.Far, q2.Twice, q2.Over, q2.Lost, q2.Begun, q2.Next, q2.Age, q2.Late, q2.Far, q2.Twice, q2.Over, q2.Lost, q2.Held, q2.Held)) := by
    rw [Xci (by decide), Xek h1, rqA, rqA, Xci (by decide)]
    by_cases hz : (p.getD ((i % 12).toNat) 0).tmod 3 = 0
    ·
     rw [Xa1 (by simpa using hz), rqA, Xci (by rw [hp]; decide), Xci (by decide), hw, Xiu a w (by omega), Xaf, rqA, Xci (by rw [hp]; decide), Xci (by decide), Xf5 a w (by omega), Xaf]
     have ok3 := Xql (w := w) ok2
     have tw3 := Xk8 a w
     have tk := Xtr a w ok2
     generalize Xeo a w = t at ok3 tw3 tk ⊢
     obtain ⟨q2, out, what⟩ := t
     simp only at ok3 tw3 tk ⊢
     have hl3 := (Xaq ok3).2.2.1
     rw [Xem out (by omega), Xdo q2 (by omega), Xc0, ok3]
     simp only [bne_self_eq_false, Xg8, Xaf, Xfg, Bool.not_true]
     exact ⟨q2, ok3, by omega, rfl⟩
    ·
     rw [Xa0 (by simpa using hz)]
     exact ⟨a, ok2, by omega, rfl⟩
   obtain ⟨q2, ok3, tw3, e5⟩ := step
   by_cases hc : c = 0
   ·
    have hag := ag hc
    have hm : 0 ≤ a.Twice := by have := tc.2.2.1; unfold cnt at this; simp only [decide_eq_true_eq] at this; omega
    have hmo : Xk5 a.Twice = a.Twice + 1 := by unfold Xk5; rw [if_pos (by omega)]
    rw [Xa1 (by simpa using hc), rqA, rqA, Xgu a pk (by omega), Xaf, hag]
    simp only [bne_self_eq_false, Xg8]
    rw [hmo, show a.Twice + 1 - 1 = a.Twice by omega, wkA, show (⟨a.Begun, a.Next, a.Age, a.Held, a.Late, a.Far, a.Twice, a.Over, a.Lost⟩ : Xah) = a from rfl, Xdo a (by omega), Xaf, Bool.not_true, Xaf, Xg8, e5]
    exact ⟨_, rfl, ⟨by simp only; omega, by simp only; omega, q2, ok3, tw3, rfl⟩, by simp only; omega, fun _ h => h⟩
   ·
    rw [Xa0 (by simpa using hc), e5]
    exact ⟨_, rfl, ⟨by simp only; omega, by simp only; omega, q2, ok3, tw3, rfl⟩, by simp only; omega, fun _ h => h⟩
  ·
   rw [Xck hil]; exact .inl ⟨_, rfl, rfl⟩) (0, q.Begun, q.Next, q.Age, q.Late, q.Far, q.Twice, q.Over, q.Lost, q.Begun, q.Next, q.Age, q.Late, q.Far, q.Twice, q.Over, q.Lost, q.Held, q.Held) ⟨by simp, by simp, q, hq, by simp only; omega, rfl⟩
 rw [h, h2]; rfl
end Go.Proofs.Ytlebkepfhdjnmaa.A.Pure
