/- The pure statement of the law FnRates: over numbers, texts and lists alone, what the law computes is true. Conditions: the sizes of what a machine holds. -/
import Derived.Test.YtlebkepfhdjnmaaDFnRates
namespace Go.Proofs.Ytlebkepfhdjnmaa.A.Pure
open Go Go.Proofs Go.Proofs.YtlebkepfhdjnmaaAL Go.RowKit
set_option linter.unusedVariables false
set_option linter.unusedSimpArgs false
set_option maxHeartbeats 1000000
theorem Xas {α β : Type} (a : α) (f : α → Option β) : bnd (some a) f = f a := rfl
theorem Xnq {β : Type} (x y : β) : sel true x y = x := rfl
theorem Xo0 {β : Type} (b : Bool) (x y : β) : sel (!b) x y = sel b y x := by cases b <;> rfl
theorem Xnp (b x : Bool) : sel b (some x) (some false) = some (b && x) := by cases b <;> rfl
theorem Xoz {β : Type} (p : Prop) [Decidable p] (x y : β) : sel (decide p) x y = if p then x else y := by
 by_cases h : p <;> simp [h, sel]
theorem Xje {β : Type} {b : Bool} {x y : β} (h : b = true) : sel b x y = x := by subst h; rfl
theorem Xjd {β : Type} {b : Bool} {x y : β} (h : b = false) : sel b x y = y := by subst h; rfl
theorem Xbg {β : Type} {p : Prop} [Decidable p] {x y : β} (h : p) : sel (decide p) x y = x := by simp [h, sel]
theorem Xdu {β : Type} {p : Prop} [Decidable p] {x y : β} (h : ¬ p) : sel (decide p) x y = y := by simp [h, sel]
theorem Xhq {β : Type} {c : Prop} [Decidable c] {k : Option β} (h : c) : req c k = k := if_pos h
theorem wk {e : Int} (h1 : -9223372036854775808 ≤ e) (h2 : e ≤ 9223372036854775807) : Xab .i64 e = e := by
 show wrap64 e = e
 unfold wrap64; omega
theorem rqA {β : Type} {c : Prop} [Decidable c] {k : Option β} (h : c := by omega) : req c k = k := Xhq h
theorem syA {β : Type} {c : Prop} [Decidable c] {x y : β} (h : c := by omega) : sel (decide c) x y = x := Xbg h
theorem snA {β : Type} {c : Prop} [Decidable c] {x y : β} (h : ¬ c := by omega) : sel (decide c) x y = y := Xdu h
theorem wkA {e : Int} (h1 : -9223372036854775808 ≤ e := by omega) (h2 : e ≤ 9223372036854775807 := by omega) : Xab .i64 e = e := wk h1 h2
theorem Xio : maxLen = 9223372036854775807 := rfl
theorem Xfe {a b : Int} (h : 0 ≤ a) : Int.tmod a b = a % b := Int.tmod_eq_emod_of_nonneg h
theorem Xna {P : Nat → Prop} (n : Nat) (h0 : P n) (hs : ∀ i, i < n → P (i + 1) → P i) : ∀ i, i ≤ n → P i := by
 intro i hi
 obtain ⟨k, rfl⟩ : ∃ k, n = i + k := ⟨n - i, by omega⟩
 clear hi
 induction k generalizing i with
 | zero => exact h0
 | succ k ih =>
  refine hs i (by omega) ?_
  exact ih (i + 1) (by rw [show i + 1 + k = i + (k + 1) by omega]; exact h0) (fun j hj => hs j (by omega))
theorem Xhk {V O : Type} {f : V → Option (Lp V O)} (I : V → Prop) (m : V → Nat) (Q : V → O → Prop) (h : ∀ v, I v → (∃ o, f v = some (.done o) ∧ Q v o) ∨ ∃ v', f v = some (.go v') ∧ I v' ∧ m v' < m v ∧ ∀ o, Q v' o → Q v o) : ∀ v, I v → ∃ o, loop f v = some o ∧ Q v o := by
 intro v
 generalize hn : m v = n
 induction n using Nat.strongRecOn generalizing v with
 | _ n ih =>
  intro hv
  rcases h v hv with ⟨o, h1, h2⟩ | ⟨v', h1, h2, h3, h4⟩
  ·
   exact ⟨o, Xfv h1, h2⟩
  ·
   obtain ⟨o, h5, h6⟩ := ih (m v') (by omega) v' rfl h2
   exact ⟨o, by rw [Xlr h1]; exact h5, h4 o h6⟩
theorem Xni {V O S : Type} {f : V → Option (Lp V O)} (n : Nat) (st : S → Nat → V) (R : S → Nat → O) (h0 : ∀ s, f (st s n) = some (.done (R s n)))
  (hs : ∀ s i, i < n → f (st s i) = some (.done (R s i)) ∨ ∃ s', f (st s i) = some (.go (st s' (i + 1))) ∧ R s i = R s' (i + 1)) : ∀ i, i ≤ n → ∀ s, loop f (st s i) = some (R s i) := by
 refine Xna n (fun s => Xfv (h0 s)) ?_
 intro i hi ih s
 rcases hs s i hi with h | ⟨s', h, e⟩
 ·
  exact Xfv h
 ·
  rw [Xlr h, ih s', e]
theorem Xle {α : Type} (l : List α) (i : Nat) (h : i < l.length) (d : α) : l.getD i d = l[i] := by
 simp [List.getD_eq_getElem?_getD, List.getElem?_eq_getElem h]
theorem Xnb {α : Type} (l : List α) (i : Nat) (h : i < l.length) (d : α) : l.drop i = l.getD i d :: l.drop (i + 1) := by
 rw [List.drop_eq_getElem_cons h, Xle l i h]
theorem Xgl (a b c : Int) : Xba a b c = some (decide (b ≤ a ∧ a ≤ c)) := by
 unfold Xba
 by_cases h : b ≤ a <;> simp [bnd, sel, h]
theorem Xg7 (y : Int) : 0 ≤ IntKind.wrap .i64 (BitVec.ofInt (IntKind.bits .i64) y &&& BitVec.ofInt (IntKind.bits .i64) 255).toNat ∧ IntKind.wrap .i64 (BitVec.ofInt (IntKind.bits .i64) y &&& BitVec.ofInt (IntKind.bits .i64) 255).toNat ≤ 255 := by
 have h : (BitVec.ofInt (IntKind.bits .i64) y &&& BitVec.ofInt (IntKind.bits .i64) 255).toNat ≤ 255 := by
  rw [BitVec.toNat_and]
  exact Nat.le_trans Nat.and_le_right (by decide)
 generalize (BitVec.ofInt (IntKind.bits .i64) y &&& BitVec.ofInt (IntKind.bits .i64) 255).toNat = n at h ⊢
 rw [← Xdx, wkA]
 omega
def Xha (c : Xaz) : Prop := c.b_.length ≤ 1048576 ∧ 0 ≤ c.i_
theorem Xdb (b : List Int) (hb : b.length ≤ 1048576) : ∃ c, Xbq b = some c ∧ Xha c := by
 unfold Xbq
 obtain ⟨o, h, _⟩ := Xhk (f := Xbv b) (fun v => 0 ≤ v.2) (fun v => b.length - v.2.toNat) (fun _ _ => True) (by
  intro ⟨h, i⟩ hi
  unfold Xbv
  simp only [Xnp, Xas] at hi ⊢
  by_cases h1 : i < b.length ∧ i < 4000
  ·
   rw [Xje (by simp; exact h1), Xhq ⟨hi, h1.1⟩]
   refine .inr ⟨_, rfl, ?_, ?_, fun _ _ => trivial⟩
   ·
    simp only; rw [wkA]; omega
   ·
    simp only; rw [wkA]; omega
  ·
   rw [Xjd (by simp; omega)]
   exact .inl ⟨_, rfl, trivial⟩) (Xab .i64 (94701 + (b.length : Int)), 0) (by simp)
 rw [h]
 exact ⟨_, rfl, hb, by simp⟩
theorem Xa6 (c : Xaz) (hc : Xha c) : ∃ x c', Xam c = some (x, c') ∧ 0 ≤ x ∧ x ≤ 255 ∧ Xha c' := by
 unfold Xam
 rw [Xhq (by decide), Xhq (by decide)]
 obtain ⟨h1, h2⟩ := hc
 by_cases h : c.i_ < c.b_.length
 ·
  rw [Xbg h, Xhq ⟨h2, h⟩, Xas]
  refine ⟨_, _, rfl, (Xg7 _).1, (Xg7 _).2, h1, ?_⟩
  simp only; rw [wkA]; omega
 ·
  rw [Xdu h, Xas]
  exact ⟨_, _, rfl, (Xg7 _).1, (Xg7 _).2, h1, h2⟩
theorem Xar (c : Xaz) (n : Int) (hc : Xha c) : ∃ x c', Xag c n = some (x, c') ∧ 0 ≤ x ∧ (0 < n → x < n) ∧ (n ≤ 0 → x = 0) ∧ Xha c' := by
 unfold Xag
 by_cases h0 : n ≤ 0
 ·
  rw [Xbg h0]; exact ⟨_, _, rfl, by omega, fun h => by omega, fun _ => rfl, hc⟩
 ·
  rw [Xdu h0]
  obtain ⟨x, c1, e1, a1, b1, hc1⟩ := Xa6 c hc
  by_cases h1 : n ≤ 256
  ·
   rw [Xbg h1, e1, Xas, rqA]
   refine ⟨_, _, rfl, ?_, fun _ => ?_, fun h => by omega, hc1⟩
   ·
    simp only; rw [Xfe a1]; exact Int.emod_nonneg _ (by omega)
   ·
    simp only; rw [Xfe a1]; exact Int.emod_lt_of_pos _ (by omega)
  ·
   obtain ⟨y, c2, e2, a2, b2, hc2⟩ := Xa6 c1 hc1
   obtain ⟨z, c3, e3, a3, b3, hc3⟩ := Xa6 c2 hc2
   obtain ⟨u, c4, e4, a4, b4, hc4⟩ := Xa6 c3 hc3
   rw [Xdu h1, e1, Xas]
   simp only
   rw [e2, Xas]
   simp only
   rw [e3, Xas]
   simp only
   rw [e4, Xas, rqA]
   simp only
   rw [wkA (e := x * 16777216), wkA (e := y * 65536), wkA (e := z * 256), wkA (e := x * 16777216 + y * 65536), wkA (e := x * 16777216 + y * 65536 + z * 256), wkA, Xfe (by omega)]
   exact ⟨_, _, rfl, Int.emod_nonneg _ (by omega), fun _ => Int.emod_lt_of_pos _ (by omega), fun h => by omega, hc4⟩
theorem Xi5 (l : List Int) : Xfa l = some (decide ((l.length : Int) > 1048576)) := rfl
theorem Xdw (b : List Int) (hb : b.length ≤ 1048576) : ∃ l, Xa5 b = some l ∧ l.length = 12 ∧ ∀ x ∈ l, 0 ≤ x ∧ x < 10000 := by
 unfold Xa5
 obtain ⟨c, e, hc⟩ := Xdb b hb
 obtain ⟨x, c1, e1, _, _, hc1⟩ := Xa6 c hc
 rw [e, Xas, e1, Xas]
 obtain ⟨o, h, h2⟩ := Xhk (f := Xax) (fun v => 0 ≤ v.1 ∧ v.1 ≤ 12 ∧ Xha ⟨v.2.1, v.2.2.1, v.2.2.2.1⟩ ∧ (v.2.2.2.2.length : Int) = v.1 ∧ ∀ x ∈ v.2.2.2.2, 0 ≤ x ∧ x < 10000) (fun v => 12 - v.1.toNat) (fun _ o => o.length = 12 ∧ ∀ x ∈ o, 0 ≤ x ∧ x < 10000) (by
  intro ⟨i, b, j, h, l⟩ ⟨h1, h2, h3, h4, h5⟩
  unfold Xax
  simp only at h1 h2 h3 h4 h5 ⊢
  by_cases hi : i < 12
  ·
   obtain ⟨x, c', ex, x0, x1, _, hx⟩ := Xar _ 10000 h3
   rw [Xbg hi, ex, Xas, Xhq (by rw [Xio]; simp only [List.length_singleton]; omega)]
   refine .inr ⟨_, rfl, ?_, ?_, fun _ h => h⟩
   ·
    rw [wkA]
    refine ⟨by omega, by omega, hx, by simp; omega, ?_⟩
    intro y hy
    rcases List.mem_append.1 hy with hy | hy
    ·
     exact h5 y hy
    ·
     rw [List.mem_singleton.1 hy]; exact ⟨x0, x1 (by omega)⟩
   ·
    rw [wkA]; omega
  ·
   rw [Xdu hi]
   exact .inl ⟨_, rfl, by omega, h5⟩) (0, c1.b_, c1.i_, c1.h_, []) ⟨by simp, by simp, hc1, by simp, by simp⟩
 rw [h]
 exact ⟨_, rfl, h2⟩
def Xao (n a b : Int) : Int := if b < a ∨ n < a then a else if n > b then b else n
theorem Xfo (n a b : Int) : Xa0 n a b = some (Xao n a b) := by
 unfold Xa0 Xao
 congr 1
 repeat' split
 all_goals omega
def Xb5 (r : Xcr) : Bool := decide (0 ≤ r.Qp ∧ r.Qp ≤ 40 ∧ 1 ≤ r.Target ∧ r.Target ≤ 100000 ∧ -8 * r.Target ≤ r.Debt ∧ r.Debt ≤ 8 * r.Target)
theorem Xbm (r : Xcr) : Xb5 r = true ↔ 0 ≤ r.Qp ∧ r.Qp ≤ 40 ∧ 1 ≤ r.Target ∧ r.Target ≤ 100000 ∧ -8 * r.Target ≤ r.Debt ∧ r.Debt ≤ 8 * r.Target := by simp [Xb5]
theorem Xci (r : Xcr) : Xa1 r = some (Xb5 r) := by
 unfold Xa1 Xb5
 simp only [Xgl, Xas]
 by_cases h1 : 0 ≤ r.Qp ∧ r.Qp ≤ 40
 ·
  rw [Xbg h1]
  by_cases h2 : 1 ≤ r.Target ∧ r.Target ≤ 100000
  ·
   rw [Xbg h2, wkA, wkA, Xas]
   simp only [h1.1, h1.2, h2.1, h2.2, true_and]
  ·
   rw [Xdu h2, Xas]; congr 1; symm; rw [decide_eq_false_iff_not]; exact fun h => h2 ⟨h.2.2.1, h.2.2.2.1⟩
 ·
  rw [Xdu h1, Xas]; congr 1; symm; rw [decide_eq_false_iff_not]; exact fun h => h1 ⟨h.1, h.2.1⟩
def Xaj (r : Xcr) (n : Int) : Int := Xao (r.Debt + Xao n 0 400000 - r.Target) (-8 * r.Target) (8 * r.Target)
def Xad (r : Xcr) (n : Int) : Xcr :=
 if Xb5 r = true then ⟨Xao (if Xaj r n > r.Target then r.Qp + 1 else if Xaj r n < -r.Target then r.Qp - 1 else r.Qp) 0 40, r.Target, Xaj r n⟩ else r
theorem Xc1 {n a b : Int} (h : a ≤ b) : a ≤ Xao n a b ∧ Xao n a b ≤ b := by
 unfold Xao
 repeat' split
 all_goals omega
theorem Xb2 (r : Xcr) (n : Int) : Xau r n = some (Xad r n) := by
 unfold Xau Xad
 rw [Xci, Xas]
 by_cases h : Xb5 r = true
 ·
  rw [if_pos h, Xjd (by rw [h]; rfl)]
  have h' := (Xbm r).1 h
  have hb := Xc1 (n := n) (a := 0) (b := 400000) (by omega)
  simp only [Xfo, Xas]
  rw [wkA (e := r.Debt + Xao n 0 400000), wkA (e := r.Debt + Xao n 0 400000 - r.Target), wkA (e := -8 * r.Target), wkA (e := 8 * r.Target)]
  have hd := Xc1 (n := r.Debt + Xao n 0 400000 - r.Target) (a := -8 * r.Target) (b := 8 * r.Target) (by omega)
  have ed : Xao (r.Debt + Xao n 0 400000 - r.Target) (-8 * r.Target) (8 * r.Target) = Xaj r n := rfl
  rw [ed]
  have hd' : -8 * r.Target ≤ Xaj r n ∧ Xaj r n ≤ 8 * r.Target := hd
  rw [wkA (e := r.Qp + 1), wkA (e := r.Qp - 1), wkA (e := 0 - r.Target)]
  simp only [Xoz]
  by_cases h1 : Xaj r n > r.Target
  ·
   rw [if_pos h1, if_pos h1, Xas]
  ·
   rw [if_neg h1, if_neg h1]
   by_cases h2 : Xaj r n < -r.Target
   ·
    rw [if_pos h2, if_pos (show Xaj r n < 0 - r.Target by omega), Xas]
   ·
    rw [if_neg h2, if_neg (show ¬ Xaj r n < 0 - r.Target by omega), Xas]
 ·
  rw [if_neg h, Xje (by simpa using h)]
theorem Xjb (r : Xcr) (n : Int) (h : Xb5 r = true) : Xb5 (Xad r n) = true := by
 unfold Xad
 rw [if_pos h]
 have h' := (Xbm r).1 h
 rw [Xbm]
 have hd : -8 * r.Target ≤ Xaj r n ∧ Xaj r n ≤ 8 * r.Target := Xc1 (by omega)
 have hq := Xc1 (n := (if Xaj r n > r.Target then r.Qp + 1 else if Xaj r n < -r.Target then r.Qp - 1 else r.Qp)) (a := 0) (b := 40) (by omega)
 simp only
 omega
theorem Xfy (r : Xcr) (n : Int) : (Xad r n).Target = r.Target := by unfold Xad; split <;> rfl
def Xcx (r : Xcr) (l : List Int) : Xcr := if l.length > 1000 then r else l.foldl Xad r
theorem Xdo : ∀ (l : List Int) (r : Xcr), Xb5 r = true → Xb5 (l.foldl Xad r) = true
 | [], r, h => h
 | n :: l, r, h => Xdo l (Xad r n) (Xjb r n h)
theorem Xcn : ∀ (l : List Int) (r : Xcr), (l.foldl Xad r).Target = r.Target
 | [], r => rfl
 | n :: l, r => by rw [List.foldl_cons, Xcn l, Xfy]
theorem Xcd (r : Xcr) (l : List Int) : Xa2 r l = some (Xcx r l) := by
 unfold Xa2 Xcx
 by_cases h : l.length > 1000
 ·
  rw [syA, if_pos h]
 ·
  rw [snA, if_neg h]
  have key := Xni (f := Xa3 l) l.length (fun (r : Xcr) i => ((i : Int), r.Qp, r.Target, r.Debt)) (fun r i => (((l.drop i).foldl Xad r).Qp, ((l.drop i).foldl Xad r).Target, ((l.drop i).foldl Xad r).Debt)) (by
   intro s
   unfold Xa3
   rw [snA, List.drop_eq_nil_of_le (Nat.le_refl _)]; rfl) (by
   intro s i hi
   right
   refine ⟨Xad s (l.getD i 0), ?_, by rw [Xnb l i hi 0]; rfl⟩
   unfold Xa3
   rw [syA, rqA, Xb2, Xas, wkA]
   rfl) 0 (by omega) r
  simp only [List.drop_zero] at key
  rw [show ((0 : Int), r.Qp, r.Target, r.Debt) = (((0 : Nat) : Int), r.Qp, r.Target, r.Debt) from rfl, key]
  rfl
def Xja (r : Xcr) (key : Bool) : Int := if Xb5 r = true then (if key = true then Xao (r.Qp - 2) 0 40 else r.Qp) else 0
theorem Xhd (r : Xcr) (key : Bool) : Xbk r key = some (Xja r key) := by
 unfold Xbk Xja
 rw [Xci, Xas, Xo0]
 by_cases h : Xb5 r = true
 ·
  rw [if_pos h, Xje h]
  have h' := (Xbm r).1 h
  rw [wkA]
  cases key
  ·
   rfl
  ·
   rw [Xnq, if_pos rfl]; congr 1; unfold Xao; repeat' split
   all_goals omega
 ·
  rw [if_neg h, Xjd (by simpa using h)]
theorem Xe6 (c : Xaz) (hc : Xha c) : ∃ r c', Xbi c = some (r, c') ∧ Xb5 r = true ∧ Xha c' := by
 unfold Xbi
 obtain ⟨x, c1, e1, a1, b1, _, h1⟩ := Xar c 2000 hc
 rw [e1, Xas]
 obtain ⟨y, c2, e2, a2, b2, _, h2⟩ := Xar c1 41 h1
 simp only
 rw [e2, Xas]
 have b1' := b1 (by omega)
 have b2' := b2 (by omega)
 rw [wkA (e := 1 + x), wkA (e := 16 * (1 + x)), wkA (e := 16 * (1 + x) + 1)]
 obtain ⟨z, c3, e3, a3, b3, _, h3⟩ := Xar c2 (16 * (1 + x) + 1) h2
 have b3' := b3 (by omega)
 simp only
 rw [e3, Xas, wkA (e := 8 * (1 + x)), wkA]
 refine ⟨_, _, rfl, ?_, h3⟩
 rw [Xbm]
 simp only
 omega
theorem Xe2 (b : List Int) (hb : b.length ≤ 1048576) : ∃ r l, Xbh b = some (r, l) ∧ Xb5 r = true ∧ l.length ≤ 13 := by
 unfold Xbh
 obtain ⟨c, e, hc⟩ := Xdb b hb
 obtain ⟨r, c1, e1, hr, hc1⟩ := Xe6 c hc
 rw [e, Xas, e1, Xas]
 obtain ⟨o, h, h2⟩ := Xhk (f := Xa9) (fun v => 0 ≤ v.1 ∧ v.1 ≤ 13 ∧ Xha ⟨v.2.1, v.2.2.1, v.2.2.2.1⟩ ∧ (v.2.2.2.2.length : Int) = v.1) (fun v => 13 - v.1.toNat) (fun _ o => o.length ≤ 13) (by
  intro ⟨i, b, j, h, l⟩ ⟨h1, h2, h3, h4⟩
  unfold Xa9
  simp only at h1 h2 h3 h4 ⊢
  obtain ⟨x, c', ex, x0, x1, _, hx⟩ := Xar _ 12 h3
  have x1' := x1 (by omega)
  rw [ex, Xas]
  simp only
  rw [wkA (e := 2 + x)]
  by_cases hi : i < 2 + x
  ·
   obtain ⟨y, c2, ey, y0, y1, _, hy⟩ := Xar _ 5000 hx
   rw [Xbg hi, ey, Xas, Xhq (by rw [Xio]; simp only [List.length_singleton]; omega)]
   refine .inr ⟨_, rfl, ?_, ?_, fun _ h => h⟩
   ·
    rw [wkA]
    exact ⟨by omega, by omega, hy, by simp; omega⟩
   ·
    rw [wkA]; omega
  ·
   rw [Xdu hi]
   exact .inl ⟨_, rfl, by omega⟩) (0, c1.b_, c1.i_, c1.h_, []) ⟨by simp, by simp, hc1, by simp⟩
 simp only
 rw [h, Xas]
 exact ⟨_, _, rfl, hr, h2⟩
theorem Xhp (r : Xcr) (m n : Int) (h : m ≤ n) (hr : Xb5 r = true) : Xaj r m ≤ Xaj r n := by
 have h' := (Xbm r).1 hr
 unfold Xaj
 have hb : Xao m 0 400000 ≤ Xao n 0 400000 := by
  unfold Xao; repeat' split
  all_goals omega
 unfold Xao at hb ⊢
 repeat' split
 all_goals omega
theorem FnRates {p0 : List Int} (h0 : p0.length ≤ maxLen ∧ ∀ y ∈ p0, (Lit.int .u8 y).wf = true) : Xcg p0 = some true := by
 unfold Xcg
 rw [Xi5, Xas]
 by_cases hb : (p0.length : Int) > 1048576
 ·
  rw [Xbg hb]
 rw [Xdu hb]
 obtain ⟨r, l, e1, hr, hl⟩ := Xe2 p0 (by omega)
 obtain ⟨p, e2, hp, hp2⟩ := Xdw p0 (by omega)
 have h' := (Xbm r).1 hr
 rw [e1, Xas, e2, Xas]
 have g : ∀ i, i < 12 → 0 ≤ p.getD i 0 ∧ p.getD i 0 < 10000 := fun i hi => by rw [Xle p i (by omega)]; exact hp2 _ (List.getElem_mem _)
 have g0 := g 0 (by omega)
 have g1 := g 1 (by omega)
 have g2 := g 2 (by omega)
 simp only [List.length_nil, List.nil_append, Int.toNat_zero, List.drop_zero, Nat.zero_add, Nat.sub_zero, Int.toNat_one, show (2 : Int).toNat = 2 from rfl, Int.toNat_natCast]
 rw [wkA (e := (l.length : Int) + 1), Xfe g0.1]
 obtain ⟨k, hk, hkl⟩ : ∃ k : Nat, p.getD 0 0 % ((l.length : Int) + 1) = k ∧ k ≤ l.length := by
  have a := Int.emod_nonneg (p.getD 0 0) (b := (l.length : Int) + 1) (by omega)
  have c := Int.emod_lt_of_pos (p.getD 0 0) (b := (l.length : Int) + 1) (by omega)
  exact ⟨(p.getD 0 0 % ((l.length : Int) + 1)).toNat, by omega, by omega⟩
 rw [hk]
 have hm : maxLen = 9223372036854775807 := rfl
 rw [rqA, rqA, rqA, rqA, Xcd, Xas, rqA, Xhq (by simp only [Int.toNat_natCast, List.length_take]; omega), Xcd, Xas, rqA,
  Xhq (by simp only [Int.toNat_natCast, List.length_take, List.length_drop]; omega), Xcd, Xas, rqA, rqA, Xb2, Xas, rqA, rqA, rqA, rqA,
  wkA (e := p.getD 1 0 + p.getD 2 0), Xb2, Xas]
 have er : ∀ (r : Xcr) (m : List Int), m.length ≤ 13 → Xcx r m = m.foldl Xad r := fun r m h => by unfold Xcx; rw [if_neg (by omega)]
 have e3 : Xcx (Xcx r (l.take k)) ((l.drop k).take (l.length - k)) = Xcx r l := by
  rw [er r l hl, er r (l.take k) (by rw [List.length_take]; omega), er _ _ (by rw [List.length_take, List.length_drop]; omega), ← List.foldl_append, List.take_of_length_le (l := l.drop k) (by rw [List.length_drop]; omega), List.take_append_drop]
 rw [Int.toNat_natCast, e3]
 have ok1 : Xb5 (Xcx r l) = true := by rw [er r l hl]; exact Xdo l r hr
 have tg : (Xcx r l).Target = r.Target := by rw [er r l hl]; exact Xcn l r
 have dm := Xhp r (p.getD 1 0) (p.getD 1 0 + p.getD 2 0) (by omega) hr
 have q : ∀ n, (Xad r n).Qp = Xao (if Xaj r n > r.Target then r.Qp + 1 else if Xaj r n < -r.Target then r.Qp - 1 else r.Qp) 0 40 ∧ (Xad r n).Debt = Xaj r n := fun n => by unfold Xad; rw [if_pos hr]; exact ⟨rfl, rfl⟩
 simp only [Xci, Xhd, Xas, hr, ok1, Xnq, tg]
 have q1 := q (p.getD 1 0)
 have q2 := q (p.getD 1 0 + p.getD 2 0)
 have s1 : (Xad r (p.getD 1 0)).Qp - r.Qp ≥ -1 ∧ (Xad r (p.getD 1 0)).Qp - r.Qp ≤ 1 ∧ 0 ≤ (Xad r (p.getD 1 0)).Qp ∧ (Xad r (p.getD 1 0)).Qp ≤ 40 := by
  rw [q1.1]; unfold Xao; repeat' split
  all_goals omega
 have s2 : (Xad r (p.getD 1 0 + p.getD 2 0)).Qp ≥ (Xad r (p.getD 1 0)).Qp := by
  rw [q1.1, q2.1]; unfold Xao; repeat' split
  all_goals omega
 have s3 : (Xad r (p.getD 1 0 + p.getD 2 0)).Debt ≥ (Xad r (p.getD 1 0)).Debt := by rw [q1.2, q2.2]; exact dm
 have s4 : Xja r false = r.Qp := by unfold Xja; rw [if_pos hr]; rfl
 have s5 : Xja r true ≤ r.Qp ∧ Xja r true ≥ r.Qp - 2 := by
  unfold Xja; rw [if_pos hr, if_pos rfl]; unfold Xao; repeat' split
  all_goals omega
 rw [wkA, wkA]
 simp only [beq_self_eq_true, Bool.and_self, Xnq, Xas, s4]
 rw [Xbg s1.1, Xbg s1.2.1, Xbg s3, Xbg s2, Xbg s5.1, Xas]
 simp only [s5.2, decide_true]
end Go.Proofs.Ytlebkepfhdjnmaa.A.Pure
