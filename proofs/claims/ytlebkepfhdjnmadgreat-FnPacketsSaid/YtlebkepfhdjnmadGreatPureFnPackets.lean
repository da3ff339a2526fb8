/- The pure statement of the law FnPackets: over numbers, texts and lists alone, what the law computes is true. Conditions: the sizes of what a machine holds. -/
import Derived.Test.YtlebkepfhdjnmadGreatDFnPackets
namespace Go.Proofs.YtlebkepfhdjnmadGreat.A.Pure
open Go Go.Proofs Go.Proofs.YtlebkepfhdjnmadGreatAL Go.RowKit
set_option linter.unusedVariables false
set_option linter.unusedSimpArgs false
set_option maxHeartbeats 1000000
theorem Xad {α β : Type} (a : α) (f : α → Option β) : bnd (some a) f = f a := rfl
theorem Xel {α β : Type} {x : Option α} {a : α} {f : α → Option β} (h : x = some a) : bnd x f = f a := by subst h; rfl
theorem Xa8 {β : Type} (x y : β) : sel true x y = x := rfl
theorem Xa7 {β : Type} (x y : β) : sel false x y = y := rfl
theorem Yij {β : Type} (b : Bool) (x y : β) : sel (!b) x y = sel b y x := by cases b <;> rfl
theorem Xcy (b x : Bool) : sel b (some x) (some false) = some (b && x) := by cases b <;> rfl
theorem Xu8 (b x : Bool) : sel b (some true) (some x) = some (b || x) := by cases b <;> rfl
theorem Xlo (b x : Bool) : sel b (some x) (some true) = some (!b || x) := by cases b <;> rfl
theorem Yoj (b x : Bool) : sel b (some false) (some x) = some (!b && x) := by cases b <;> rfl
theorem Xzn {β : Type} (b : Bool) (x y : β) : sel b (some x) (some y) = some (sel b x y) := by cases b <;> rfl
theorem Yfd {β : Type} (b : Bool) (x y : β) : sel b x y = if b = true then x else y := by cases b <;> rfl
theorem Yoi {β : Type} (p : Prop) [Decidable p] (x y : β) : sel (decide p) x y = if p then x else y := by
 by_cases h : p <;> simp [h, sel]
theorem Xbi {β : Type} {b : Bool} {x y : β} (h : b = true) : sel b x y = x := by subst h; rfl
theorem Xbb {β : Type} {b : Bool} {x y : β} (h : b = false) : sel b x y = y := by subst h; rfl
theorem Xa6 {β : Type} {p : Prop} [Decidable p] {x y : β} (h : p) : sel (decide p) x y = x := by simp [h, sel]
theorem Xax {β : Type} {p : Prop} [Decidable p] {x y : β} (h : ¬ p) : sel (decide p) x y = y := by simp [h, sel]
theorem Xa3 {β : Type} {c : Prop} [Decidable c] {k : Option β} (h : c) : req c k = k := if_pos h
theorem wk {e : Int} (h1 : -9223372036854775808 ≤ e) (h2 : e ≤ 9223372036854775807) : Xaa .i64 e = e := by
 show wrap64 e = e
 unfold wrap64; omega
theorem rqA {β : Type} {c : Prop} [Decidable c] {k : Option β} (h : c := by omega) : req c k = k := Xa3 h
theorem syA {β : Type} {c : Prop} [Decidable c] {x y : β} (h : c := by omega) : sel (decide c) x y = x := Xa6 h
theorem snA {β : Type} {c : Prop} [Decidable c] {x y : β} (h : ¬ c := by omega) : sel (decide c) x y = y := Xax h
theorem wkA {e : Int} (h1 : -9223372036854775808 ≤ e := by omega) (h2 : e ≤ 9223372036854775807 := by omega) : Xaa .i64 e = e := wk h1 h2
theorem w8 {e : Int} (h1 : 0 ≤ e) (h2 : e ≤ 255) : Xaa .u8 e = e := by
 show IntKind.wrap .u8 e = e
 simp [IntKind.wrap, IntKind.signed, IntKind.bits]; omega
theorem Yso {n : Int} (h : (Lit.int .i64 n).wf = true) : -9223372036854775808 ≤ n ∧ n ≤ 9223372036854775807 := by
 simp [Lit.wf, IntKind.min, IntKind.max, IntKind.signed, IntKind.bits] at h
 omega
theorem Xbw {a b : Int} (h : 0 ≤ a) : Int.tmod a b = a % b := Int.tmod_eq_emod_of_nonneg h
theorem Xb0 {a b : Int} (h : 0 ≤ a) : Int.tdiv a b = a / b := Int.tdiv_eq_ediv_of_nonneg h
theorem Xgv {P : Nat → Prop} (n : Nat) (h0 : P n) (hs : ∀ i, i < n → P (i + 1) → P i) : ∀ i, i ≤ n → P i := by
 intro i hi
 obtain ⟨k, rfl⟩ : ∃ k, n = i + k := ⟨n - i, by omega⟩
 clear hi
 induction k generalizing i with
 | zero => exact h0
 | succ k ih =>
  refine hs i (by omega) ?_
  exact ih (i + 1) (by rw [show i + 1 + k = i + (k + 1) by omega]; exact h0) (fun j hj => hs j (by omega))
theorem lgo {V O : Type} {f : V → Option (Lp V O)} {x y : V} {r : Option O} (h : f x = some (.go y)) (k : loop f y = r) : loop f x = r := by rw [Xjx h]; exact k
theorem Xgx {V O : Type} {f : V → Option (Lp V O)} {x : V} {o : O} (h : f x = some (.done o)) : loop f x = some o := Xer h
theorem Xgh {V O : Type} {f : V → Option (Lp V O)} (I : V → Prop) (m : V → Nat) (Q : V → O → Prop) (h : ∀ v, I v → (∃ o, f v = some (.done o) ∧ Q v o) ∨ ∃ v', f v = some (.go v') ∧ I v' ∧ m v' < m v ∧ ∀ o, Q v' o → Q v o) : ∀ v, I v → ∃ o, loop f v = some o ∧ Q v o := by
 intro v
 generalize hn : m v = n
 induction n using Nat.strongRecOn generalizing v with
 | _ n ih =>
  intro hv
  rcases h v hv with ⟨o, h1, h2⟩ | ⟨v', h1, h2, h3, h4⟩
  ·
   exact ⟨o, Xer h1, h2⟩
  ·
   obtain ⟨o, h5, h6⟩ := ih (m v') (by omega) v' rfl h2
   exact ⟨o, by rw [Xjx h1]; exact h5, h4 o h6⟩
theorem Xhm {α : Type} (l : List α) (i : Nat) (h : i < l.length) (d : α) : l.getD i d = l[i] := by
 simp [List.getD_eq_getElem?_getD, List.getElem?_eq_getElem h]
theorem Xfw (a b c : Int) : Xeq a b c = some (decide (b ≤ a ∧ a ≤ c)) := by
 unfold Xeq
 by_cases h : b ≤ a <;> simp [bnd, sel, h]
theorem Xaj (a b c : Int) : Xak a b c = some (decide (b ≤ a ∧ a ≤ c)) := by
 unfold Xak
 by_cases h : b ≤ a <;> simp [bnd, sel, h]
theorem Xgg (a : Int) : Xbt a = some (decide (0 ≤ a ∧ a ≤ 65535)) := by
 unfold Xbt; rw [Xfw]; rfl
theorem Yms {α : Type} (a : List α) (x y : α) (b : List α) : (a ++ x :: b).set a.length y = a ++ y :: b := by
 induction a with
 | nil => rfl
 | cons z a ih => simp only [List.cons_append, List.length_cons, List.set_cons_succ, ih]
theorem Xow {α : Type} (a : List α) (x d : α) (b : List α) : (a ++ x :: b).getD a.length d = x := by
 induction a with
 | nil => rfl
 | cons z a ih => simp
theorem Xl7 {f : Int → Option (Lp Int (Ou Unit Bool))} (n : Nat) (h : ∀ i : Nat, i < n → f i = some (.go ((i + 1 : Nat) : Int))) (h0 : f n = some (.done (.out ()))) : loop f 0 = some (.out ()) :=
 Xgv (P := fun i => loop f (i : Int) = some (.out ())) n (Xer h0) (fun i hi ih => by rw [Xjx (h i hi)]; exact ih) 0 (by omega)
theorem Xyh (y : Int) : 0 ≤ IntKind.wrap .i64 (BitVec.ofInt (IntKind.bits .i64) y &&& BitVec.ofInt (IntKind.bits .i64) 255).toNat ∧ IntKind.wrap .i64 (BitVec.ofInt (IntKind.bits .i64) y &&& BitVec.ofInt (IntKind.bits .i64) 255).toNat ≤ 255 := by
 have h : (BitVec.ofInt (IntKind.bits .i64) y &&& BitVec.ofInt (IntKind.bits .i64) 255).toNat ≤ 255 := by
  rw [BitVec.toNat_and]
  exact Nat.le_trans Nat.and_le_right (by decide)
 generalize (BitVec.ofInt (IntKind.bits .i64) y &&& BitVec.ofInt (IntKind.bits .i64) 255).toNat = n at h ⊢
 rw [← Xo8, wkA]
 omega
def Xc1 (c : Xaw) : Prop := c.b_.length ≤ 1048576 ∧ 0 ≤ c.i_
theorem Yc6 (b : List Int) (hb : b.length ≤ 1048576) : ∃ c, Xkv b = some c ∧ Xc1 c := by
 unfold Xkv
 obtain ⟨o, h, _⟩ := Xgh (f := Xja b) (fun v => 0 ≤ v.2) (fun v => b.length - v.2.toNat) (fun _ _ => True) (by
  intro ⟨h, i⟩ hi
  unfold Xja
  simp only [Xcy, Xad] at hi ⊢
  by_cases h1 : i < b.length ∧ i < 4000
  ·
   rw [Xbi (by simp; exact h1), Xa3 ⟨hi, h1.1⟩]
   refine .inr ⟨_, rfl, ?_, ?_, fun _ _ => trivial⟩
   ·
    simp only; rw [wkA]; omega
   ·
    simp only; rw [wkA]; omega
  ·
   rw [Xbb (by simp; omega)]
   exact .inl ⟨_, rfl, trivial⟩) (Xaa .i64 (94701 + (b.length : Int)), 0) (by simp)
 rw [h]
 exact ⟨_, rfl, hb, by simp⟩
theorem Xcj (c : Xaw) (hc : Xc1 c) : ∃ x c', Xbk c = some (x, c') ∧ 0 ≤ x ∧ x ≤ 255 ∧ Xc1 c' := by
 unfold Xbk
 rw [Xa3 (by decide), Xa3 (by decide)]
 obtain ⟨h1, h2⟩ := hc
 by_cases h : c.i_ < c.b_.length
 ·
  rw [Xa6 h, Xa3 ⟨h2, h⟩, Xad]
  refine ⟨_, _, rfl, (Xyh _).1, (Xyh _).2, h1, ?_⟩
  simp only; rw [wkA]; omega
 ·
  rw [Xax h, Xad]
  exact ⟨_, _, rfl, (Xyh _).1, (Xyh _).2, h1, h2⟩
theorem Xar (c : Xaw) (n : Int) (hc : Xc1 c) : ∃ x c', Xat c n = some (x, c') ∧ 0 ≤ x ∧ (0 < n → x < n) ∧ (n ≤ 0 → x = 0) ∧ Xc1 c' := by
 unfold Xat
 by_cases h0 : n ≤ 0
 ·
  rw [Xa6 h0]; exact ⟨_, _, rfl, by omega, fun h => by omega, fun _ => rfl, hc⟩
 ·
  rw [Xax h0]
  obtain ⟨x, c1, e1, a1, b1, hc1⟩ := Xcj c hc
  by_cases h1 : n ≤ 256
  ·
   rw [Xa6 h1, e1, Xad, rqA]
   refine ⟨_, _, rfl, ?_, fun _ => ?_, fun h => by omega, hc1⟩
   ·
    simp only; rw [Xbw a1]; exact Int.emod_nonneg _ (by omega)
   ·
    simp only; rw [Xbw a1]; exact Int.emod_lt_of_pos _ (by omega)
  ·
   obtain ⟨y, c2, e2, a2, b2, hc2⟩ := Xcj c1 hc1
   obtain ⟨z, c3, e3, a3, b3, hc3⟩ := Xcj c2 hc2
   obtain ⟨u, c4, e4, a4, b4, hc4⟩ := Xcj c3 hc3
   rw [Xax h1, e1, Xad]
   simp only
   rw [e2, Xad]
   simp only
   rw [e3, Xad]
   simp only
   rw [e4, Xad, rqA]
   simp only
   rw [wkA (e := x * 16777216), wkA (e := y * 65536), wkA (e := z * 256), wkA (e := x * 16777216 + y * 65536), wkA (e := x * 16777216 + y * 65536 + z * 256), wkA, Xbw (by omega)]
   exact ⟨_, _, rfl, Int.emod_nonneg _ (by omega), fun _ => Int.emod_lt_of_pos _ (by omega), fun h => by omega, hc4⟩
theorem Xdg (c : Xaw) (n : Int) (hc : Xc1 c) : ∃ x c', Xb8 c n = some (x, c') ∧ Xc1 c' := by
 unfold Xb8
 obtain ⟨x, c', e, _, _, _, h⟩ := Xar c n hc
 rw [e, Xad]; exact ⟨_, _, rfl, h⟩
theorem Yh6 (l : List Int) : Xx6 l = some (decide ((l.length : Int) > 1048576)) := rfl
def Xc0 (n a b : Int) : Int := if b < a ∨ n < a then a else if n > b then b else n
def Xro (r : Rate) : Bool := decide (0 ≤ r.Qp ∧ r.Qp ≤ 40 ∧ 1 ≤ r.Target ∧ r.Target ≤ 100000 ∧ -8 * r.Target ≤ r.Debt ∧ r.Debt ≤ 8 * r.Target)
theorem Ykq (r : Rate) : Xro r = true ↔ 0 ≤ r.Qp ∧ r.Qp ≤ 40 ∧ 1 ≤ r.Target ∧ r.Target ≤ 100000 ∧ -8 * r.Target ≤ r.Debt ∧ r.Debt ≤ 8 * r.Target := by simp [Xro]
theorem Xl0 {n a b : Int} (h : a ≤ b) : a ≤ Xc0 n a b ∧ Xc0 n a b ≤ b := by
 unfold Xc0
 repeat' split
 all_goals omega
theorem Xxx (c : Xaw) (hc : Xc1 c) : ∃ r c', Xij c = some (r, c') ∧ Xro r = true ∧ Xc1 c' := by
 unfold Xij
 obtain ⟨x, c1, e1, a1, b1, _, h1⟩ := Xar c 2000 hc
 rw [e1, Xad]
 obtain ⟨y, c2, e2, a2, b2, _, h2⟩ := Xar c1 41 h1
 simp only
 rw [e2, Xad]
 have b1' := b1 (by omega)
 have b2' := b2 (by omega)
 rw [wkA (e := 1 + x), wkA (e := 16 * (1 + x)), wkA (e := 16 * (1 + x) + 1)]
 obtain ⟨z, c3, e3, a3, b3, _, h3⟩ := Xar c2 (16 * (1 + x) + 1) h2
 have b3' := b3 (by omega)
 simp only
 rw [e3, Xad, wkA (e := 8 * (1 + x)), wkA]
 refine ⟨_, _, rfl, ?_, h3⟩
 rw [Ykq]
 simp only
 omega
def Xft (a b : Int) : Int := if 0 ≤ a ∧ a ≤ 65535 ∧ 0 ≤ b ∧ b ≤ 65535 then (a + b) % 65536 else 0
theorem Xkg (a b : Int) : Xep a b = some (Xft a b) := by
 unfold Xep Xft
 simp only [Xgg, Xad, Xlo]
 by_cases h : 0 ≤ a ∧ a ≤ 65535 ∧ 0 ≤ b ∧ b ≤ 65535
 ·
  rw [if_pos h, Xbb (by simp; omega), Xa3 (by decide), wkA, Xbw (by omega)]
 ·
  rw [if_neg h, Xbi (by simp; omega)]
theorem Yag (a b : Int) : Xji a b = some (Xft a b) := by
 unfold Xji Xft
 simp only [Xaj, Xad, Xlo]
 by_cases h : 0 ≤ a ∧ a ≤ 65535 ∧ 0 ≤ b ∧ b ≤ 65535
 ·
  rw [if_pos h, Xbb (by simp; omega), Xa3 (by decide), wkA, Xbw (by omega)]
 ·
  rw [if_neg h, Xbi (by simp; omega)]
def Yj2 (a b : Int) : Int := if 0 ≤ a ∧ a ≤ 65535 ∧ 0 ≤ b ∧ b ≤ 65535 then (if b - a > 32767 then b - a - 65536 else if b - a < -32768 then b - a + 65536 else b - a) else 0
theorem Yb3 (a b : Int) : Xke a b = some (Yj2 a b) := by
 unfold Xke Yj2
 simp only [Xgg, Xad, Xlo]
 by_cases h : 0 ≤ a ∧ a ≤ 65535 ∧ 0 ≤ b ∧ b ≤ 65535
 ·
  rw [if_pos h, Xbb (by simp; omega), Xa3 (by decide), wkA (e := b - a), wkA (e := b - a + 65536), Xbw (by omega), wkA, Yoi]
  repeat' split
  all_goals (simp only [Xad]; congr 1; omega)
 ·
  rw [if_neg h, Xbi (by simp; omega)]
def Xlh (p : Xay) : Bool := decide (0 ≤ p.Seq ∧ p.Seq ≤ 65535 ∧ 1 ≤ p.Bytes.size ∧ p.Bytes.size ≤ 400)
theorem Xno (p : Xay) : Xlh p = true ↔ 0 ≤ p.Seq ∧ p.Seq ≤ 65535 ∧ 1 ≤ p.Bytes.size ∧ p.Bytes.size ≤ 400 := by simp [Xlh]
theorem Xjv (p : Xay) : Xds p = some (Xlh p) := by
 unfold Xds Xlh
 simp only [Xgg, Xfw, Xad, Xcy]
 congr 1
 rw [Bool.eq_iff_iff]; simp; omega
def cnt (n : Int) : Bool := decide (0 ≤ n ∧ n ≤ 1000000000)
theorem Xcf (n a b : Int) : Xbj n a b = some (Xc0 n a b) := by
 unfold Xbj Xc0
 rw [Xu8, Xad]
 by_cases h : b < a ∨ n < a
 ·
  rw [if_pos h, Xbi (by simpa using h)]
 ·
  rw [if_neg h, Xbb (by simp; omega), Yoi]; split <;> rfl
theorem Ypq {α : Type} (l : List α) (k : Nat) : (l.drop k).take (l.length - k) = l.drop k := List.take_of_length_le (by rw [List.length_drop]; omega)
theorem Xh3 (c : Xaw) (l : List Int) (hc : Xc1 c) (hl : 0 < l.length) (hl2 : l.length ≤ 1000) : ∃ x c', Xck c l = some (x, c') ∧ x ∈ l ∧ Xc1 c' := by
 unfold Xck
 obtain ⟨x, c', e, a, b, _, h⟩ := Xar c l.length hc
 have b' := b (by omega)
 rw [e, Xad]
 simp only
 rw [rqA]
 refine ⟨_, _, rfl, ?_, h⟩
 rw [Xhm l _ (by omega)]; exact List.getElem_mem _
theorem Ydt (c : Xaw) (hc : Xc1 c) : ∃ x c', Xk8 c = some (x, c') ∧ 0 ≤ x ∧ x ≤ 65535 ∧ Xc1 c' := by
 unfold Xk8
 obtain ⟨b, c1, e1, h1⟩ := Xdg c 3 hc
 rw [e1, Xad]
 cases b with
 | true =>
  obtain ⟨x, c2, e2, hx, h2⟩ := Xh3 c1 [0, 65535, 65530, 65520, 32767, 32768] h1 (by decide) (by decide)
  simp only [Xa8]
  rw [e2, Xad]
  refine ⟨_, _, rfl, ?_, ?_, h2⟩
  all_goals (simp only [List.mem_cons, List.not_mem_nil, or_false] at hx; simp only; omega)
 | false =>
  obtain ⟨x, c2, e2, a, b, _, h2⟩ := Xar c1 65536 h1
  have b' := b (by omega)
  simp only [Xa7]
  rw [e2, Xad]
  exact ⟨_, _, rfl, a, by simp only; omega, h2⟩
theorem Xnm (l : List Xay) (hl : l.length ≤ 1048600) : Xdz l l = some true := by
 unfold Xdz
 rw [Xbb (by simp), Xl7 l.length (f := Xce l l) (by
  intro i hi
  unfold Xce
  rw [syA, rqA, rqA, Xbb (by simp), wkA]
  rfl) (by unfold Xce; rw [snA])]
 rfl
def Xlg (n : Int) : Bool := decide (1 ≤ n ∧ n ≤ 8)
def Yki : List Int → Int
 | [] => 0
 | x :: r => x + Yki r
def Xio (l : List Int) : Bool := decide (1 ≤ l.length ∧ l.length ≤ 4) && l.all Xlg
def Xx2 (l : List Int) : Int := if Xio l = true then Yki l else 0
theorem Xqb : ∀ {l : List Int}, l.all Xlg = true → (l.length : Int) ≤ Yki l ∧ Yki l ≤ 8 * l.length
 | [], _ => by simp [Yki]
 | x :: r, h => by
  rw [List.all_cons, Bool.and_eq_true] at h
  have := Xqb h.2
  have hx := h.1
  unfold Xlg at hx
  simp only [decide_eq_true_eq] at hx
  rw [Yki, List.length_cons]
  omega
theorem Xva (l : List Int) : 0 ≤ Xx2 l ∧ Xx2 l ≤ 32 := by
 unfold Xx2
 split
 ·
  rename_i h
  unfold Xio at h
  rw [Bool.and_eq_true, decide_eq_true_eq] at h
  have := Xqb h.2
  omega
 ·
  omega
theorem Xjc (l : List Int) : Xe8 l = some (Xx2 l) := by
 unfold Xe8 Xx2 Xio
 rw [Xu8, Xad]
 by_cases h : 1 ≤ l.length ∧ l.length ≤ 4
 ·
  rw [Xbb (by simp; omega), decide_eq_true h, Bool.true_and]
  have key : ∀ (r a : List Int) (t : Int), l = a ++ r → 0 ≤ t → t ≤ 8 * a.length → loop (Xeb l) (t, (a.length : Int)) = some (if r.all Xlg = true then .out (t + Yki r) else .ret 0) := by
   intro r
   induction r with
   | nil =>
    intro a t ha h0 h1
    rw [List.append_nil] at ha
    refine Xgx ?_
    unfold Xeb
    simp only
    rw [Xax (by rw [ha]; omega)]
    simp [Yki]
   | cons x r ih =>
    intro a t ha h0 h1
    have hlen : a.length < l.length := by rw [ha]; simp
    have hx : l.getD a.length 0 = x := by rw [ha]; exact Xow a x _ r
    have hstep : Xeb l (t, (a.length : Int)) = sel (Xlg x) (some (.go (Xaa .i64 (t + x), ((a.length + 1 : Nat) : Int)))) (some (.done (.ret 0))) := by
     unfold Xeb
     simp only [Int.toNat_natCast, hx]
     rw [syA, rqA, Xaj, Xad, Yij, rqA, wkA (e := (a.length : Int) + 1)]
     rfl
    cases e : Xlg x with
    | true =>
     rw [e] at hstep
     have hx2 := e
     unfold Xlg at hx2
     simp only [decide_eq_true_eq] at hx2
     rw [wkA, Xa8] at hstep
     have := ih (a ++ [x]) (t + x) (by rw [ha]; simp) (by omega) (by simp; omega)
     rw [List.length_append, List.length_singleton] at this
     rw [Xjx hstep, this, List.all_cons, e, Bool.true_and, Yki, Int.add_assoc]
    | false =>
     rw [e, Xa7] at hstep
     rw [Xer hstep, List.all_cons, e, Bool.false_and]; rfl
  have := key l [] 0 rfl (by omega) (by simp)
  simp only [List.length_nil, Int.zero_add] at this
  rw [show (((0 : Int), (0 : Int))) = (0, ((0 : Nat) : Int)) from rfl, this, Xad]
  cases l.all Xlg <;> rfl
 ·
  rw [Xbi (by simp; omega), decide_eq_false h, Bool.false_and]; rfl
def Xmx (s : Seq) : Int := Xx2 s.Cols * Xx2 s.Rows
theorem Ydu (s : Seq) : 0 ≤ Xmx s ∧ Xmx s ≤ 1024 := by
 unfold Xmx
 have h1 := Xva s.Cols
 have h2 := Xva s.Rows
 refine ⟨Int.mul_nonneg h1.1 h2.1, ?_⟩
 calc Xx2 s.Cols * Xx2 s.Rows ≤ 32 * Xx2 s.Rows := Int.mul_le_mul_of_nonneg_right h1.2 h2.1
  _ ≤ 1024 := by omega
theorem Xug (s : Seq) : Xf7 s = some (Xmx s) := by
 have h := Ydu s
 unfold Xf7
 rw [Xjc, Xad, Xjc, Xad, wk (by show _ ≤ Xmx s; omega) (by show Xmx s ≤ _; omega)]
 rfl
def Xlf (n : Int) : Int := if n = 1 then 16 else if n = 2 then 64 else if n = 3 then 256 else 0
theorem Xpe (n : Int) : Xc7 n = some (Xlf n) := by
 unfold Xc7 Xlf
 simp only [Yfd, beq_iff_eq]
 repeat' split
 all_goals rfl
def Xkj (s : Seq) : Bool := decide (1 ≤ Xmx s ∧ Xmx s ≤ Xlf s.Level) && decide (3 ≤ s.Bits ∧ s.Bits ≤ 8)
theorem Xmw (s : Seq) : Xiw s = some (Xkj s) := by
 unfold Xiw Xkj
 simp only [Xug, Xpe, Xaj, Xad, Xcy]
theorem Xgz {s : Seq} (h : Xkj s = true) : Xio s.Cols = true ∧ Xio s.Rows = true ∧ 3 ≤ s.Bits ∧ s.Bits ≤ 8 := by
 unfold Xkj at h
 rw [Bool.and_eq_true, decide_eq_true_eq, decide_eq_true_eq] at h
 obtain ⟨⟨h1, _⟩, h3⟩ := h
 unfold Xmx Xx2 at h1
 refine ⟨?_, ?_, h3⟩
 ·
  refine Classical.byContradiction fun e => ?_
  rw [if_neg e, Int.zero_mul] at h1; omega
 ·
  refine Classical.byContradiction fun e => ?_
  rw [if_neg e, Int.mul_zero] at h1; omega
def Xmp (c r : List Int) : Int := if Xkj ⟨1, 3, c, r⟩ = true then 1 else if Xkj ⟨2, 3, c, r⟩ = true then 2 else if Xkj ⟨3, 3, c, r⟩ = true then 3 else 0
theorem Ykj (c r : List Int) (f : Int → Option (Lp Int (Ou Unit Int))) (h : ∀ n : Int, n ≤ 3 → 1 ≤ n → f n = sel (Xkj ⟨n, 3, c, r⟩) (some (.done (.ret n))) (some (.go (n + 1)))) (h4 : f 4 = some (.done (.out ()))) :
  (bnd (loop f 1) fun o => match o with | .out _ => some 0 | .ret r => some r) = some (Xmp c r) := by
 have h1 := h 1 (by omega) (by omega)
 have h2 := h 2 (by omega) (by omega)
 have h3 := h 3 (by omega) (by omega)
 unfold Xmp
 cases e1 : Xkj ⟨1, 3, c, r⟩ with
 | true => rw [e1, Xa8] at h1; rw [Xer h1]; rfl
 | false =>
  rw [e1, Xa7] at h1
  rw [Xjx h1]
  cases e2 : Xkj ⟨2, 3, c, r⟩ with
  | true => rw [e2, Xa8] at h2; rw [show (1 : Int) + 1 = 2 from rfl, Xer h2]; rfl
  | false =>
   rw [e2, Xa7] at h2
   rw [show (1 : Int) + 1 = 2 from rfl, Xjx h2]
   cases e3 : Xkj ⟨3, 3, c, r⟩ with
   | true => rw [e3, Xa8] at h3; rw [show (2 : Int) + 1 = 3 from rfl, Xer h3]; rfl
   | false =>
    rw [e3, Xa7] at h3
    rw [show (2 : Int) + 1 = 3 from rfl, Xjx h3, show (3 : Int) + 1 = 4 from rfl, Xer h4]; rfl
theorem Xv5 (c r : List Int) : Xhy c r = some (Xmp c r) := by
 unfold Xhy
 refine Ykj c r _ (fun n h1 h2 => ?_) ?_
 ·
  unfold Xgk
  rw [Xa6 h1, Xmw, Xad, wkA]
 ·
  unfold Xgk; rw [snA]
def Xos (s : Seq) : Int := if Xkj s = true then (s.Cols.length : Int) * s.Rows.length else 0
theorem Xms {l : List Int} (h : Xio l = true) : 1 ≤ l.length ∧ l.length ≤ 4 := by
 unfold Xio at h; rw [Bool.and_eq_true, decide_eq_true_eq] at h; exact h.1
theorem Yiq {s : Seq} (h : Xkj s = true) : 1 ≤ (s.Cols.length : Int) * s.Rows.length ∧ (s.Cols.length : Int) * s.Rows.length ≤ 16 := by
 obtain ⟨h1, h2, _⟩ := Xgz h
 have a := Xms h1
 have b := Xms h2
 have e : ∀ x y : Nat, 1 ≤ x → x ≤ 4 → 1 ≤ y → y ≤ 4 → 1 ≤ x * y ∧ x * y ≤ 16 := by
  intro x y h1 h2 h3 h4
  rcases (show x = 1 ∨ x = 2 ∨ x = 3 ∨ x = 4 by omega) with rfl | rfl | rfl | rfl <;> omega
 have := e _ _ a.1 a.2 b.1 b.2
 rw [← Int.natCast_mul]; omega
theorem Xn4 (s : Seq) : Xha s = some (Xos s) := by
 unfold Xha Xos
 rw [Xmw, Xad, Yij]
 cases h : Xkj s with
 | false => rfl
 | true => have := Yiq h; rw [Xa8, wkA, if_pos rfl]
def Xqg (s : Seq) : Int × Int := if Xkj s = true then (8 * Yki s.Cols, 8 * Yki s.Rows) else (0, 0)
theorem Yl1 {l : List Int} (h : Xio l = true) : 1 ≤ Yki l ∧ Yki l ≤ 32 := by
 unfold Xio at h
 rw [Bool.and_eq_true, decide_eq_true_eq] at h
 have := Xqb h.2
 omega
theorem Xlt (s : Seq) : Xg1 s = some (Xqg s) := by
 unfold Xg1 Xqg
 rw [Xmw, Xad, Yij]
 cases h : Xkj s with
 | false => rfl
 | true =>
  obtain ⟨h1, h2, _⟩ := Xgz h
  have a := Yl1 h1
  have b := Yl1 h2
  rw [Xa8, Xjc, Xad, Xjc, Xad, if_pos rfl]
  unfold Xx2
  rw [if_pos h1, if_pos h2, wkA, wkA]
def Xrl (p : Par) : Bool := decide (0 ≤ p.Qp ∧ p.Qp ≤ 40) && !(p.Large && p.Exact)
theorem Xr6 (p : Par) : Xkd p = some (Xrl p) := by
 unfold Xkd Xrl
 rw [Xaj, Xad, Xlo, Xcy, Xad]
 cases p.Large <;> cases p.Exact <;> rfl
def Xef (p : Pic) : Bool := decide (1 ≤ p.Wide ∧ p.Wide ≤ 256) && (decide (1 ≤ p.High ∧ p.High ≤ 256) && ((p.Dots.size : Int) == p.Wide * p.High))
theorem Xka {w h : Int} (h1 : 1 ≤ w ∧ w ≤ 256) (h2 : 1 ≤ h ∧ h ≤ 256) : 1 ≤ w * h ∧ w * h ≤ 65536 := by
 have a : w * 1 ≤ w * h := Int.mul_le_mul_of_nonneg_left h2.1 (by omega)
 have b : w * h ≤ 256 * h := Int.mul_le_mul_of_nonneg_right h1.2 (by omega)
 omega
theorem Xb5 (p : Pic) : Xcc p = some (Xef p) := by
 unfold Xcc Xef
 simp only [Xaj, Xad, Xcy]
 by_cases h1 : 1 ≤ p.Wide ∧ p.Wide ≤ 256
 ·
  by_cases h2 : 1 ≤ p.High ∧ p.High ≤ 256
  ·
   have := Xka h1 h2
   rw [wkA]
  ·
   rw [decide_eq_false h2, Bool.false_and, Bool.false_and]
 ·
  rw [decide_eq_false h1, Bool.false_and, Bool.false_and]
def Yq1 (p : Pic) (s : Seq) : Bool := Xef p && ((p.Wide == (Xqg s).1) && (p.High == (Xqg s).2))
theorem Xlr (r : Rate) : Xg0 r = some (Xro r) := by
 unfold Xg0 Xro
 simp only [Xaj, Xad]
 by_cases h1 : 0 ≤ r.Qp ∧ r.Qp ≤ 40
 ·
  rw [Xa6 h1]
  by_cases h2 : 1 ≤ r.Target ∧ r.Target ≤ 100000
  ·
   rw [Xa6 h2, wkA, wkA, Xad]
   simp only [h1.1, h1.2, h2.1, h2.2, true_and]
  ·
   rw [Xax h2, Xad]; congr 1; symm; rw [decide_eq_false_iff_not]; exact fun h => h2 ⟨h.2.2.1, h.2.2.2.1⟩
 ·
  rw [Xax h1, Xad]; congr 1; symm; rw [decide_eq_false_iff_not]; exact fun h => h1 ⟨h.1, h.2.1⟩
def Xgj (s : Xcm) : Bool :=
 decide (Xos s.Seq = 1) && Xrl s.Par && Xro s.Rate && decide (0 ≤ s.Frame ∧ s.Frame < 2 ^ s.Seq.Bits.toNat) && decide ((1 ≤ s.Every ∧ s.Every ≤ 1000) ∧ (0 ≤ s.Since ∧ s.Since ≤ 1000) ∧ (0 ≤ s.Reach ∧ s.Reach ≤ 4)) &&
 (if s.Has = true then Yq1 s.Ref s.Seq else decide (s.Ref.Wide = 0 ∧ s.Ref.High = 0 ∧ s.Ref.Dots.size = 0))
theorem Yiw {b : Int} (h : 3 ≤ b ∧ b ≤ 8) : (2 : Int) ^ min b.toNat (IntKind.bits .i64) = 2 ^ b.toNat ∧ (8 : Int) ≤ 2 ^ b.toNat ∧ (2 : Int) ^ b.toNat ≤ 256 := by
 rcases (show b = 3 ∨ b = 4 ∨ b = 5 ∨ b = 6 ∨ b = 7 ∨ b = 8 by omega) with rfl | rfl | rfl | rfl | rfl | rfl <;> decide
theorem Yhl {s : Seq} (h : Xos s = 1) : Xkj s = true := by
 unfold Xos at h
 refine Classical.byContradiction fun e => ?_
 rw [if_neg e] at h; cases h
theorem Yhc (b : ByteArray) : (b.toList == (⟨#[]⟩ : ByteArray).toList) = decide (b.size = 0) := by
 rw [ByteArray.toList_eq, ByteArray.toList_eq, Bool.eq_iff_iff]
 obtain ⟨⟨l⟩⟩ := b
 show (l == []) = true ↔ decide (l.length = 0) = true
 cases l <;> simp
theorem Xgm (s : Xcm) (hb : (Lit.int .i64 s.Seq.Bits).wf = true) : Xcr s = some (Xgj s) := by
 have hb' := Yso hb
 unfold Xcr Xgj
 rw [Xn4, Xad]
 by_cases h1 : Xos s.Seq = 1
 ·
  have hs := (Xgz (Yhl h1)).2.2
  have hp := Yiw hs
  have e64 : Xaa .u64 s.Seq.Bits = s.Seq.Bits := by
   show IntKind.wrap .u64 s.Seq.Bits = _
   simp [IntKind.wrap, IntKind.signed, IntKind.bits]; omega
  rw [Xbb (by simp [h1]), e64, rqA, hp.1, wkA, Xr6, Xad, Xlr, Xad, Xu8, Xlo, Xlo, Xad]
  simp only [Xaj, Xad, Xlo]
  rw [decide_eq_true h1, Bool.true_and]
  cases hpar : Xrl s.Par with
  | false => rfl
  | true =>
   cases hr : Xro s.Rate with
   | false => rfl
   | true =>
    by_cases hf : 0 ≤ s.Frame ∧ s.Frame < 2 ^ s.Seq.Bits.toNat
    ·
     rw [Xbb (by simp; omega), decide_eq_true hf]
     by_cases h3 : (1 ≤ s.Every ∧ s.Every ≤ 1000) ∧ (0 ≤ s.Since ∧ s.Since ≤ 1000) ∧ (0 ≤ s.Reach ∧ s.Reach ≤ 4)
     ·
      rw [Xbb (by simp; omega), decide_eq_true h3, Xlt, Xad]
      cases s.Has with
      | true =>
       rw [Xa8]
       simp only [Xb5, Xad, Xcy, Yq1]
       rfl
      | false =>
       rw [Xa7]
       simp only [Xad, Xcy]
       congr 1
       rw [Bool.eq_iff_iff]; simp
     ·
      rw [Xbi (by simp; omega), decide_eq_false h3]; simp
    ·
     rw [Xbi (by simp; omega), decide_eq_false hf]; simp
 ·
  rw [Xbi (by simpa using h1), Xad, Xa8, decide_eq_false h1]; simp
def Xkb (c r b : Int) (p : Par) (t : Rate) (e n : Int) : Xcm := ⟨⟨Xmp [c] [r], b, [c], [r]⟩, p, t, 0, 0, e, n, false, ⟨0, 0, ⟨#[]⟩⟩⟩
theorem Xa5 (a b : List Int) : strOfNums a ++ strOfNums b = strOfNums (a ++ b) := by
 unfold strOfNums
 rw [List.map_append]
 apply ByteArray.ext
 simp
theorem Yp9 : (⟨#[]⟩ : ByteArray) = strOfNums [] := rfl
def Yns (l : List Int) : Prop := ∀ x ∈ l, 0 ≤ x ∧ x ≤ 255
theorem Xx9 (l : List Int) (h : Yns l) : Xal (strOfNums l) = l := by
 unfold Xal
 rw [strOfNums_data, List.map_map]
 have : ∀ x ∈ l, ((fun b : UInt8 => (b.toNat : Int)) ∘ fun n : Int => UInt8.ofNat n.toNat) x = x := by
  intro x hx
  have := h x hx
  simp only [Function.comp_apply, UInt8.toNat_ofNat']
  omega
 rw [List.map_congr_left this, List.map_id']
theorem Yqx (l : List Int) (h : Yns l) (i : Nat) (hi : i < l.length) : Xei (strOfNums l) (i : Int) = l.getD i 0 := by
 unfold Xei
 rw [dif_pos (by rw [Int.toNat_natCast, strOfNums_size]; exact hi)]
 have hx := h l[i] (List.getElem_mem hi)
 rw [Xhm l i hi]
 show ((((l.map fun n => UInt8.ofNat n.toNat).toArray)[(i : Int).toNat]'(by simpa using hi)).toNat : Int) = _
 simp only [Int.toNat_natCast, List.getElem_toArray, List.getElem_map, UInt8.toNat_ofNat']
 omega
def Ynb : Nat → Int → List Int
 | 0, _ => []
 | w + 1, n => Ynb w (n / 2) ++ [48 + n % 2]
theorem Xi3 : ∀ (w : Nat) (n : Int), (Ynb w n).length = w
 | 0, _ => rfl
 | w + 1, n => by rw [Ynb, List.length_append, Xi3 w]; rfl
def Xp2 (l : List Int) : Prop := ∀ x ∈ l, x = 48 ∨ x = 49
theorem Xa1 {a b : List Int} (ha : Xp2 a) (hb : Xp2 b) : Xp2 (a ++ b) := fun x hx => (List.mem_append.1 hx).elim (ha x) (hb x)
theorem Yiv (n : Nat) : Xp2 (List.replicate n 48) := fun x hx => .inl (List.eq_of_mem_replicate hx)
theorem Xyk {l : List Int} (h : Xp2 l) : Yns l := fun x hx => by rcases h x hx with e | e <;> omega
theorem Xk9 : Xp2 [] := fun x hx => by simp at hx
theorem Xx4 : ∀ (w : Nat) (n : Int), Xp2 (Ynb w n)
 | 0, _ => Xk9
 | w + 1, n => Xa1 (Xx4 w (n / 2)) (fun x hx => by rw [List.mem_singleton.1 hx]; omega)
theorem Yny : ∀ (k : Nat) (n : Int) (s : List Int), 0 ≤ n → n ≤ 9223372036854775807 → k + s.length ≤ 100000 → loop Xf8 (n, (k : Int) - 1, List.replicate k 0 ++ s) = some (Ynb k n ++ s) := by
 intro k
 induction k with
 | zero =>
  intro n s h0 h1 hl
  refine Xgx ?_
  unfold Xf8
  simp only
  rw [snA]
  simp [Ynb]
 | succ k ih =>
  intro n s h0 h1 hl
  have e1 : List.replicate (k + 1) (0 : Int) ++ s = List.replicate k 0 ++ 0 :: s := by rw [List.replicate_succ', List.append_assoc]; rfl
  have e2 := Yms (List.replicate k (0 : Int)) 0 (48 + n % 2) s
  rw [List.length_replicate] at e2
  refine lgo (y := (n / 2, (k : Int) - 1, List.replicate k 0 ++ (48 + n % 2) :: s)) ?_ ?_
  ·
   unfold Xf8
   have e3 : (((k + 1 : Nat) : Int) - 1).toNat = k := by omega
   simp only [e1, e3]
   rw [syA, Xa3 (by decide), Xa3 (by simp; omega), Xa3 (by simp), Xa3 (by decide), Xbw h0, Xb0 h0, wkA (e := 48 + n % 2), w8 (by omega) (by omega), e2, wkA, wkA]
   rw [show ((k + 1 : Nat) : Int) - 1 - 1 = (k : Int) - 1 by omega]
  ·
   rw [ih (n / 2) ((48 + n % 2) :: s) (by omega) (by omega) (by simp; omega), Ynb, List.append_assoc]; rfl
theorem Xlx (n : Int) (w : Nat) (h0 : 0 ≤ n) (h1 : n ≤ 9223372036854775807) (hw : w ≤ 1000) : Xg3 n (w : Int) = some (strOfNums (Ynb w n)) := by
 unfold Xg3
 rw [rqA, wkA, Int.toNat_natCast]
 have := Yny w n [] h0 h1 (by simp; omega)
 rw [List.append_nil, List.append_nil] at this
 rw [this, Xad]
def Ylr (m : Nat) : Nat := if h : m = 0 then 0 else Ylr (m / 2) + 1
termination_by m
decreasing_by omega
def Ym9 (m : Nat) : List Int := if h : m = 0 then [] else Ym9 (m / 2) ++ [48 + ((m % 2 : Nat) : Int)]
termination_by m
decreasing_by omega
theorem Yiu (m : Nat) : (Ym9 m).length = Ylr m := by
 induction m using Nat.strongRecOn with
 | _ m ih =>
  rw [Ym9, Ylr]
  by_cases h : m = 0
  ·
   rw [dif_pos h, dif_pos h]; rfl
  ·
   rw [dif_neg h, dif_neg h, List.length_append, ih (m / 2) (by omega)]; rfl
theorem Yls {m j : Nat} (h : m < 2 ^ j) : Ylr m ≤ j := by
 induction j generalizing m with
 | zero => rw [Ylr, dif_pos (by simp at h; omega)]; omega
 | succ j ih =>
  rw [Ylr]
  split
  ·
   omega
  ·
   have := ih (m := m / 2) (by rw [Nat.pow_succ] at h; omega)
   omega
theorem Yi4 {m : Nat} (h : 0 < m) : 1 ≤ Ylr m := by rw [Ylr, dif_neg (by omega)]; omega
theorem Ynp (m : Nat) : Xp2 (Ym9 m) := by
 induction m using Nat.strongRecOn with
 | _ m ih =>
  rw [Ym9]
  by_cases h : m = 0
  ·
   rw [dif_pos h]; exact Xk9
  ·
   rw [dif_neg h]; exact Xa1 (ih (m / 2) (by omega)) (fun x hx => by rw [List.mem_singleton.1 hx]; omega)
def ueL (n : Nat) : List Int := List.replicate (Ylr (n + 1) - 1) 48 ++ Ym9 (n + 1)
theorem Xj1 (n : Nat) : Xp2 (ueL n) := Xa1 (Yiv _) (Ynp _)
theorem Xeg (n : Nat) (h : n ≤ 1000000) : (ueL n).length ≤ 39 ∧ 1 ≤ (ueL n).length := by
 unfold ueL
 rw [List.length_append, List.length_replicate, Yiu]
 have := Yls (m := n + 1) (j := 20) (by omega)
 have := Yi4 (m := n + 1) (by omega)
 omega
theorem Xn6 (n : Nat) (x : Int) (h : n ≤ 1000000000) : Xhb (n : Int) x = some (strOfNums (List.replicate n x)) := by
 unfold Xhb
 rw [rqA, Int.toNat_natCast]
 have key : ∀ (k a : Nat), k + a = n → loop (Xe5 (n : Int) x) ((a : Int), List.replicate a x ++ List.replicate k 0) = some (List.replicate n x) := by
  intro k
  induction k with
  | zero =>
   intro a ha
   refine Xgx ?_
   unfold Xe5
   simp only
   rw [snA]
   simp; omega
  | succ k ih =>
   intro a ha
   have e2 := Yms (List.replicate a x) 0 x (List.replicate k 0)
   rw [List.length_replicate] at e2
   refine lgo (y := (((a + 1 : Nat) : Int), List.replicate (a + 1) x ++ List.replicate k 0)) ?_ (ih (a + 1) (by omega))
   unfold Xe5
   simp only [List.replicate_succ (n := k), Int.toNat_natCast]
   rw [syA, Xa3 (by simp; omega), Xa3 (by simp), e2, wkA, List.replicate_succ' (n := a), List.append_assoc]
   rfl
 have := key n 0 rfl
 rw [List.replicate_zero, List.nil_append] at this
 exact Xel this
theorem Xbv (n : Nat) (h : n ≤ 1000000) : Xbr (n : Int) = some (strOfNums (ueL n)) := by
 have main : ∀ (j m : Nat) (s : List Int), m < 2 ^ j → j ≤ 63 → s.length + j ≤ 1000 → loop Xfp ((m : Int), strOfNums s) = some (strOfNums (Ym9 m ++ s)) := by
  intro j
  induction j with
  | zero =>
   intro m s hm _ _
   have : m = 0 := by simp at hm; omega
   subst this
   refine Xgx ?_
   unfold Xfp
   simp only
   rw [snA, Ym9, dif_pos rfl]; rfl
  | succ j ih =>
   intro m s hm hj hl
   by_cases h : m = 0
   ·
    subst h
    refine Xgx ?_
    unfold Xfp
    simp only
    rw [snA, Ym9, dif_pos rfl]; rfl
   ·
    have hlt : (m : Int) < 2 ^ (j + 1) := by exact_mod_cast hm
    have hle : (2 : Int) ^ (j + 1) ≤ 2 ^ 63 := by
     have := Nat.pow_le_pow_right (n := 2) (by omega) hj
     exact_mod_cast this
    have hbd : (m : Int) < 9223372036854775808 := Int.lt_of_lt_of_le hlt (by simpa using hle)
    refine lgo (y := (((m / 2 : Nat) : Int), strOfNums ((48 + ((m % 2 : Nat) : Int)) :: s))) ?_ ?_
    ·
     unfold Xfp
     simp only
     rw [syA, Xa3 (by decide), Xbw (by omega), Xb0 (by omega), wkA (e := 48 + (m : Int) % 2), w8 (by omega) (by omega), Xa3 (by simp only [strOfNums_size, List.length_singleton]; omega), Xa3 (by decide), wkA, Xa5]
     congr 3
    ·
     rw [ih (m / 2) _ (by rw [Nat.pow_succ] at hm; omega) (by omega) (by simp; omega)]
     conv => rhs; rw [Ym9, dif_neg h]
     rw [List.append_assoc]; rfl
 unfold Xbr
 have h1 := Yls (m := n + 1) (j := 20) (by omega)
 have h2 := Yi4 (m := n + 1) (by omega)
 rw [wkA (e := (n : Int) + 1), Yp9, show (n : Int) + 1 = ((n + 1 : Nat) : Int) by omega, main 63 (n + 1) [] (by omega) (by omega) (by simp), Xad, List.append_nil, strOfNums_size, Yiu, wkA, show (Ylr (n + 1) : Int) - 1 = ((Ylr (n + 1) - 1 : Nat) : Int) by omega, Xn6 _ _ (by omega), Xad,
  Xa3 (by simp only [strOfNums_size, List.length_replicate]; omega), Xa5]
 rfl
theorem Ynq (x : Int) (h : x = 48 ∨ x = 49) : ((x != 48) && (x != 49)) = false := by rcases h with rfl | rfl <;> rfl
theorem Yod (l : List Int) (hl : Xp2 l) (hn : l.length ≤ 9223372036854775806) (f : Int → Option (Lp Int (Ou Unit Bool)))
  (h : ∀ i : Nat, i < l.length → f (i : Int) = sel (((l.getD i 0) != 48) && ((l.getD i 0) != 49)) (some (.done (.ret false))) (some (.go ((i + 1 : Nat) : Int)))) (h0 : f (l.length : Int) = some (.done (.out ()))) : loop f 0 = some (.out ()) :=
 Xl7 l.length (fun i hi => by rw [h i hi, Ynq _ (by rw [Xhm l i hi]; exact hl _ (List.getElem_mem hi)), Xa7]) h0
theorem Yc8 (l : List Int) (hl : Xp2 l) (hn : l.length ≤ 9223372036854775806) : Xkw (strOfNums l) = some true := by
 unfold Xkw
 rw [Yod l hl hn (Xf9 (strOfNums l)) (fun i hi => by
  unfold Xf9
  rw [strOfNums_size, Yqx l (Xyk hl) i hi, syA, rqA, rqA, Xcy, Xad, wkA]; rfl) (by
  unfold Xf9; rw [strOfNums_size, snA])]
 rfl
theorem Yfq (l : List Int) (hl : Xp2 l) (hn : l.length ≤ 400000) : Xmd (strOfNums l) = some true := by
 unfold Xmd
 rw [strOfNums_size, syA, Yc8 l hl (by omega), Xad, Xad]
def Yby (l : List Int) : Int := l.foldl (fun x b => 2 * x + b - 48) 0
def Xyo : Nat → List Int → List Int
 | 0, _ => []
 | n + 1, l => Yby (l.take 8) :: Xyo n (l.drop 8)
theorem Yd2 : ∀ (n : Nat) (l : List Int), (Xyo n l).length = n
 | 0, _ => rfl
 | n + 1, l => by rw [Xyo, List.length_cons, Yd2 n]
def Yqs (l : List Int) : List Int := Xyo (l.length / 8 + 1) (l ++ 49 :: List.replicate (8 * (l.length / 8 + 1) - l.length - 1) 48)
theorem Yqq (l : List Int) : ∀ x : Int, l.foldl (fun x b => 2 * x + b - 48) x = x * 2 ^ l.length + Yby l := by
 induction l with
 | nil => intro x; simp [Yby]
 | cons b l ih =>
  intro x
  unfold Yby
  rw [List.foldl_cons, List.foldl_cons, ih, ih (2 * 0 + b - 48), List.length_cons, Int.pow_succ]
  have e1 : (2 * x + b - 48) * 2 ^ l.length = 2 * (x * 2 ^ l.length) + (b - 48) * 2 ^ l.length := by
   rw [show 2 * x + b - 48 = 2 * x + (b - 48) by omega, Int.add_mul, Int.mul_assoc]
  have e2 : x * (2 ^ l.length * 2) = 2 * (x * 2 ^ l.length) := by rw [← Int.mul_assoc, Int.mul_comm]
  rw [e1, e2, show (2 : Int) * 0 + b - 48 = b - 48 by omega]
  omega
theorem Ym6 (a b : List Int) : Yby (a ++ b) = Yby a * 2 ^ b.length + Yby b := by
 show (a ++ b).foldl _ 0 = _
 rw [List.foldl_append]
 exact Yqq b (Yby a)
theorem Yhn {l : List Int} (h : Xp2 l) : 0 ≤ Yby l ∧ Yby l < 2 ^ l.length := by
 induction l with
 | nil => simp [Yby]
 | cons b l ih =>
  have h1 := ih (fun x hx => h x (by simp [hx]))
  have h2 := h b (by simp)
  rw [show b :: l = [b] ++ l from rfl, Ym6, List.length_append, Int.pow_add, show Yby [b] = b - 48 by simp [Yby]]
  have : (2 : Int) ^ [b].length = 2 := rfl
  rw [this]
  rcases h2 with rfl | rfl <;> omega
theorem Ym5 (v : List Int) (i : Nat) (out : List Int) (c : List Int) (hc : (v.drop i).take 8 = c) (h8 : c.length = 8) (hb : Xp2 c) (hn : v.length ≤ 1000000) (hi : i + 8 ≤ v.length) : loop (Xcd v ((i : Int), out)) (0, 0) = some (Yby c) := by
 have key : ∀ (r a : List Int), c = a ++ r → loop (Xcd v ((i : Int), out)) (Yby a, (a.length : Int)) = some (Yby c) := by
  intro r
  induction r with
  | nil =>
   intro a ha
   rw [List.append_nil] at ha
   refine Xgx ?_
   unfold Xcd
   simp only
   rw [Xax (by rw [← ha]; omega), ha]
  | cons x r ih =>
   intro a ha
   have hlen : a.length < 8 := by rw [← h8, ha]; simp
   have hx : v.getD (i + a.length) 0 = x := by
    have h1 : c.getD a.length 0 = x := by rw [ha]; exact Xow a x _ r
    rw [← h1, ← hc]
    rw [List.getD_eq_getElem?_getD, List.getD_eq_getElem?_getD, List.getElem?_take_of_lt hlen, List.getElem?_drop]
   have hab : Xp2 a := fun y hy => hb y (by rw [ha]; simp [hy])
   have hr := Yhn hab
   have hp : (2 : Int) ^ a.length ≤ 2 ^ 8 := by
    have := Nat.pow_le_pow_right (n := 2) (by omega) (show a.length ≤ 8 by omega)
    exact_mod_cast this
   have h256 : (2 : Int) ^ 8 = 256 := by decide
   have hxb : x = 48 ∨ x = 49 := hb x (by rw [ha]; simp)
   have hnext := ih (a ++ [x]) (by rw [ha]; simp)
   rw [List.length_append, List.length_singleton] at hnext
   refine lgo (y := (Yby (a ++ [x]), ((a.length + 1 : Nat) : Int))) ?_ hnext
   unfold Xcd
   simp only
   rw [syA, wkA (e := (i : Int) + a.length), rqA, rqA, show ((i : Int) + (a.length : Int)).toNat = i + a.length by omega, hx, wkA (e := (a.length : Int) + 1), wkA (e := x), wkA (e := 2 * Yby a), wkA (e := 2 * Yby a + x), wkA,
    Ym6, show Yby [x] = x - 48 by simp [Yby], show [x].length = 1 from rfl, Int.pow_one]
   congr 4
   omega
 have := key c [] rfl
 exact this
theorem Ykd (v : List Int) (hb : Xp2 v) (hn : v.length ≤ 1000000) : ∀ (m i : Nat) (out : List Int), i + 8 * m = v.length → out.length ≤ i → loop (Xdh v) ((i : Int), out) = some (out ++ Xyo m (v.drop i)) := by
 have hm' : maxLen = 9223372036854775807 := rfl
 intro m
 induction m with
 | zero =>
  intro i out hi _
  refine Xgx ?_
  unfold Xdh
  simp only
  rw [snA]; simp [Xyo]
 | succ m ih =>
  intro i out hi ho
  have hlen : ((v.drop i).take 8).length = 8 := by rw [List.length_take, List.length_drop]; omega
  have hcb : Xp2 ((v.drop i).take 8) := fun x hx => hb x (List.mem_of_mem_drop (List.mem_of_mem_take hx))
  have hr := Yhn hcb
  rw [hlen, show (2 : Int) ^ 8 = 256 by decide] at hr
  refine lgo (y := (((i + 8 : Nat) : Int), out ++ [Yby ((v.drop i).take 8)])) ?_ ?_
  ·
   unfold Xdh
   simp only
   rw [syA, Ym5 v i out _ rfl hlen hcb hn (by omega), Xad, w8 (by omega) (by omega), Xa3 (by simp only [List.length_singleton]; omega), wkA]
   rfl
  ·
   rw [ih (i + 8) _ (by omega) (by simp; omega), Xyo, List.drop_drop, List.append_assoc]; rfl
theorem Xwt (l : List Int) (hl : Xp2 l) (hn : l.length ≤ 400000) : Xh4 (strOfNums l) = some (strOfNums (Yqs l)) := by
 have hm' : maxLen = 9223372036854775807 := rfl
 unfold Xh4
 rw [strOfNums_size, Xx9 l (Xyk hl), rqA, Xa3 (by simp only [List.length_singleton]; omega)]
 have key : ∀ (z : Nat) (s : List Int), s.length ≤ 500000 → z < 8 → (s.length + z) % 8 = 0 → loop Xd3 s = some (s ++ List.replicate z 48) := by
  intro z
  induction z with
  | zero =>
   intro s hs _ h8
   refine Xgx ?_
   unfold Xd3
   rw [Xa3 (by decide), Xbw (by omega), Xbb (by simp only [bne_eq_false_iff_eq]; omega)]; simp
  | succ z ih =>
   intro s hs hz h8
   refine lgo (y := s ++ [48]) ?_ ?_
   ·
    unfold Xd3
    rw [Xa3 (by decide), Xbw (by omega), Xbi (by simp only [bne_iff_ne, ne_eq]; omega), Xa3 (by simp only [List.length_singleton]; omega)]
   ·
    rw [ih (s ++ [48]) (by simp; omega) (by omega) (by simp; omega), List.append_assoc, List.replicate_succ]; rfl
 have hz : (l ++ [49] ++ List.replicate (8 * (l.length / 8 + 1) - l.length - 1) 48 : List Int).length = 8 * (l.length / 8 + 1) := by simp; omega
 have hvb : Xp2 (l ++ [49] ++ List.replicate (8 * (l.length / 8 + 1) - l.length - 1) 48) := Xa1 (Xa1 hl (fun x hx => .inr (List.mem_singleton.1 hx))) (Yiv _)
 rw [key (8 * (l.length / 8 + 1) - l.length - 1) (l ++ [49]) (by simp; omega) (by omega) (by simp; omega), Xad]
 have := Ykd _ hvb (by omega) (l.length / 8 + 1) 0 [] (by rw [hz]; omega) (by simp)
 rw [List.nil_append, List.drop_zero] at this
 rw [show (0 : Int) = ((0 : Nat) : Int) from rfl, this, Xad]
 unfold Yqs
 rw [List.append_assoc, List.singleton_append]
theorem Xya (l : List Int) : (Yqs l).length = l.length / 8 + 1 := Yd2 _ _
def Yd5 (k : Int) : Bool := k == 1 || (k == 5 || (k == 7 || k == 8))
theorem Ya6 (k : Int) : Xjm k = some (Yd5 k) := by
 unfold Xjm Yd5
 simp only [Xu8, Xad]
theorem Yl0 {k : Int} (h : Yd5 k = true) : 1 ≤ k ∧ k ≤ 8 := by
 unfold Yd5 at h
 simp only [Bool.or_eq_true, beq_iff_eq] at h
 omega
theorem Xlv (k : Int) (l : List Int) (hk : Yd5 k = true) (hl : Xp2 l) (hn : l.length ≤ 400000) : Xg2 k (strOfNums l) = some (strOfNums (k :: Yqs l), true) := by
 have := Yl0 hk
 have hp := Xya l
 unfold Xg2
 rw [Ya6, Xad, hk, Xa8, Yfq l hl hn, Xad, Xad, Bool.not_true, Xa7, Xwt l hl hn, Xad, w8 (by omega) (by omega), Xa3 (by simp only [strOfNums_size, List.length_singleton]; omega), Xa5]; rfl
def Yhb (b : Bool) : List Int := if b = true then [49] else [48]
theorem Xzp (b : Bool) : Xp2 (Yhb b) := by unfold Yhb; split <;> (intro x hx; rw [List.mem_singleton.1 hx]; simp)
theorem Xrs (b : Bool) : (Yhb b).length = 1 := by unfold Yhb; split <;> rfl
theorem Xky (b : Bool) : Xhd b = some (strOfNums (Yhb b)) := by cases b <;> rfl
def Yra (p : Par) : List Int := Ynb 6 p.Qp ++ Yhb p.Large ++ Yhb p.Exact ++ Yhb p.Confined
theorem Yn9 (p : Par) : Xp2 (Yra p) := Xa1 (Xa1 (Xa1 (Xx4 _ _) (Xzp _)) (Xzp _)) (Xzp _)
theorem Yjs (p : Par) : (Yra p).length = 9 := by unfold Yra; simp only [List.length_append, Xi3, Xrs]
theorem Yjt {p : Par} (h : Xrl p = true) : 0 ≤ p.Qp ∧ p.Qp ≤ 40 := by
 unfold Xrl at h; rw [Bool.and_eq_true, decide_eq_true_eq] at h; exact h.1
theorem Yde (p : Par) (h : Xrl p = true) : Xkz p = some (strOfNums (Yra p)) := by
 have := Yjt h
 unfold Xkz
 rw [show (6 : Int) = ((6 : Nat) : Int) from rfl, Xlx _ 6 (by omega) (by omega) (by omega), Xad, Xky, Xad, Xa3 (by simp only [strOfNums_size, Xi3, Xrs]; omega), Xky, Xad, Xa5, Xa3 (by simp only [strOfNums_size, List.length_append, Xi3, Xrs]; omega), Xky, Xad, Xa5, Xa3 (by simp only [strOfNums_size, List.length_append, Xi3, Xrs]; omega), Xa5]
 rfl
def Yne : List Int → List Int
 | [] => []
 | x :: r => ueL x.toNat ++ Yne r
theorem Yj8 : ∀ l : List Int, Xp2 (Yne l)
 | [] => Xk9
 | x :: r => Xa1 (Xj1 _) (Yj8 r)
theorem Yj9 : ∀ {l : List Int}, l.all Xlg = true → (Yne l).length ≤ 39 * l.length
 | [], _ => by simp [Yne]
 | x :: r, h => by
  rw [List.all_cons, Bool.and_eq_true] at h
  have h1 := Yj9 h.2
  have h2 : 1 ≤ x ∧ x ≤ 8 := by simpa [Xlg] using h.1
  have := Xeg x.toNat (by omega)
  rw [Yne, List.length_append, List.length_cons]
  omega
def Ykk (l : List Int) : List Int := ueL l.length ++ Yne l
def Yrc (s : Seq) : List Int := ueL s.Level.toNat ++ Ynb 4 s.Bits ++ Ykk s.Cols ++ Ykk s.Rows
theorem Ygr (l : List Int) : Xp2 (Ykk l) := Xa1 (Xj1 _) (Yj8 _)
theorem Yok (s : Seq) : Xp2 (Yrc s) := Xa1 (Xa1 (Xa1 (Xj1 _) (Xx4 _ _)) (Ygr _)) (Ygr _)
theorem Xrk {l : List Int} (h : Xio l = true) : (Ykk l).length ≤ 195 := by
 have h1 := Xms h
 unfold Xio at h
 rw [Bool.and_eq_true] at h
 have := Yj9 h.2
 have := Xeg l.length (by omega)
 unfold Ykk; rw [List.length_append]; omega
theorem Xzo {s : Seq} (h : Xkj s = true) : 1 ≤ s.Level ∧ s.Level ≤ 3 := by
 unfold Xkj at h
 rw [Bool.and_eq_true, decide_eq_true_eq] at h
 have := h.1
 unfold Xlf at this
 repeat' split at this
 all_goals omega
theorem Yj3 {s : Seq} (h : Xkj s = true) : (Yrc s).length ≤ 433 := by
 obtain ⟨h1, h2, _⟩ := Xgz h
 have h3 := Xzo h
 have := Xrk h1
 have := Xrk h2
 have := Xeg s.Level.toNat (by omega)
 unfold Yrc; simp only [List.length_append, Xi3]; omega
theorem Yhm (l : List Int) (ha : l.all Xlg = true) (h4 : l.length ≤ 4) (f : (ByteArray × Int) → Option (Lp (ByteArray × Int) ByteArray))
  (h : ∀ (i : Nat) (s : List Int) (x : Int), i < l.length → s.length ≤ 1000 → l.getD i 0 = x → f (strOfNums s, (i : Int)) = some (.go (strOfNums (s ++ ueL x.toNat), ((i + 1 : Nat) : Int)))) (h0 : ∀ s, f (s, (l.length : Int)) = some (.done s)) (s : List Int) (hs : s.length ≤ 500) : loop f (strOfNums s, 0) = some (strOfNums (s ++ Yne l)) := by
 have key : ∀ (r a : List Int) (s : List Int), l = a ++ r → s.length + 39 * r.length ≤ 800 → loop f (strOfNums s, (a.length : Int)) = some (strOfNums (s ++ Yne r)) := by
  intro r
  induction r with
  | nil => intro a s ha _; rw [List.append_nil] at ha; rw [← ha, Xer (h0 _), Yne, List.append_nil]
  | cons x r ih =>
   intro a s hl hsl
   have hlen : a.length < l.length := by rw [hl]; simp
   have hx : l.getD a.length 0 = x := by rw [hl]; exact Xow a x _ r
   have hxs : 1 ≤ x ∧ x ≤ 8 := by simpa [Xlg] using List.all_eq_true.1 ha x (by rw [hl]; simp)
   have := Xeg x.toNat (by omega)
   rw [List.length_cons] at hsl
   have hn := ih (a ++ [x]) (s ++ ueL x.toNat) (by rw [hl]; simp) (by rw [List.length_append]; omega)
   rw [List.length_append, List.length_singleton] at hn
   rw [Xjx (h a.length s x hlen (by omega) hx), hn, Yne, List.append_assoc]
 exact key l [] s rfl (by omega)
theorem Xoc (l : List Int) (h : Xio l = true) : Xhe l = some (strOfNums (Ykk l)) := by
 have h1 := Xms h
 have ha : l.all Xlg = true := by unfold Xio at h; rw [Bool.and_eq_true] at h; exact h.2
 have := Xeg l.length (by omega)
 unfold Xhe
 rw [Xbv _ (by omega), Xad, Yhm l ha h1.2 (Xe7 l) (by
  intro i s x hi hs hx
  have hxs : 1 ≤ x ∧ x ≤ 8 := by rw [Xhm l i hi] at hx; simpa [Xlg, hx] using List.all_eq_true.1 ha _ (List.getElem_mem hi)
  have := Xeg x.toNat (by omega)
  unfold Xe7
  simp only [Int.toNat_natCast, hx]
  rw [syA, rqA, show x = ((x.toNat : Nat) : Int) by omega, Xbv _ (by omega), Xad, Xa3 (by simp only [strOfNums_size]; omega), wkA, Xa5]
  rfl) (by intro s; unfold Xe7; simp only; rw [snA]) _ (by omega), Xad]
 rfl
theorem Ydg (s : Seq) (h : Xkj s = true) : Xk0 s = some (strOfNums (Yrc s)) := by
 obtain ⟨h1, h2, h3⟩ := Xgz h
 have h4 := Xzo h
 have := Xrk h1
 have := Xrk h2
 have := Xeg s.Level.toNat (by omega)
 unfold Xk0
 rw [show s.Level = ((s.Level.toNat : Nat) : Int) by omega, Xbv _ (by omega), Xad, show (4 : Int) = ((4 : Nat) : Int) from rfl, Xlx _ 4 (by omega) (by omega) (by omega), Xad, Xa3 (by simp only [strOfNums_size, Xi3]; omega), Xoc _ h1, Xad, Xa5, Xa3 (by simp only [strOfNums_size, List.length_append, Xi3]; omega), Xoc _ h2, Xad, Xa5, Xa3 (by simp only [strOfNums_size, List.length_append, Xi3]; omega), Xa5]
 rfl
def Xl8 (s : Xcm) : List ByteArray := if Xgj s = true then [strOfNums (7 :: Yqs (Yrc s.Seq)), strOfNums (8 :: Yqs (Yra s.Par))] else []
theorem Xlp {s : Xcm} (h : Xgj s = true) : Xkj s.Seq = true ∧ Xrl s.Par = true := by
 unfold Xgj at h
 simp only [Bool.and_eq_true, decide_eq_true_eq] at h
 exact ⟨Yhl h.1.1.1.1.1, h.1.1.1.1.2⟩
theorem Xse (s : Xcm) (hb : (Lit.int .i64 s.Seq.Bits).wf = true) : Xdd s = some (Xl8 s) := by
 unfold Xdd Xl8
 rw [Xgm s hb, Xad, Yij]
 cases h : Xgj s with
 | false => rfl
 | true =>
  obtain ⟨h1, h2⟩ := Xlp h
  have := Yj3 h1
  rw [Xa8, Ydg _ h1, Xad, Xlv 7 _ rfl (Yok _) (by omega), Xad, Yde _ h2, Xad, Xlv 8 _ rfl (Yn9 _) (by rw [Yjs]; omega), Xad]
  rfl
def Ylt (n : Int) : Nat := if n > 0 then (2 * n - 1).toNat else (-2 * n).toNat
theorem Ycf (n : Int) (h : -500000 ≤ n ∧ n ≤ 500000) : Xkk n = some ((Ylt n : Int), true) := by
 unfold Xkk Ylt
 rw [Xaj, Xad, Yij, Xa6 h, Yoi, wkA (e := 2 * n), wkA, wkA]
 split
 ·
  rw [Int.toNat_of_nonneg (by omega)]
 ·
  rw [Int.toNat_of_nonneg (by omega)]
theorem Yi6 (n : Int) (h : -500000 ≤ n ∧ n ≤ 500000) : Ylt n ≤ 1000000 := by unfold Ylt; split <;> omega
def seL (n : Int) : List Int := ueL (Ylt n)
theorem Xqf (n : Int) (h : -500000 ≤ n ∧ n ≤ 500000) : (seL n).length ≤ 39 := (Xeg _ (Yi6 n h)).1
theorem Xh6 (n : Int) (h : -500000 ≤ n ∧ n ≤ 500000) : Xfo n = some (strOfNums (seL n)) := by
 unfold Xfo
 rw [Ycf n h, Xad, Xbv _ (Yi6 n h), Xad]; rfl
def Yib (x : Int) : Bool := decide (-5000 ≤ x ∧ x ≤ 5000)
theorem Yjo {x : Int} : Yib x = true ↔ -5000 ≤ x ∧ x ≤ 5000 := by simp [Yib]
def nz : List Int → Nat
 | [] => 0
 | x :: r => if x = 0 then nz r else nz r + 1
theorem Ypz : ∀ l : List Int, nz l ≤ l.length
 | [] => by simp [nz]
 | x :: r => by rw [nz, List.length_cons]; have := Ypz r; split <;> omega
def Xvk : Nat → List Int → List Int
 | _, [] => []
 | g, x :: r => if x = 0 then Xvk (g + 1) r else ueL g ++ seL x ++ Xvk 0 r
def Yfb (l : List Int) : List Int := ueL (nz l) ++ Xvk 0 l
theorem Xzm : ∀ (l : List Int) (g : Nat), Xp2 (Xvk g l)
 | [], _ => Xk9
 | x :: r, g => by
  rw [Xvk]
  split
  ·
   exact Xzm r _
  ·
   exact Xa1 (Xa1 (Xj1 _) (Xj1 _)) (Xzm r _)
theorem Xrq : ∀ (l : List Int) (g : Nat), l.all Yib = true → g + l.length ≤ 1000 → (Xvk g l).length ≤ 78 * l.length
 | [], _, _, _ => by simp [Xvk]
 | x :: r, g, h, hg => by
  rw [List.all_cons, Bool.and_eq_true, Yjo] at h
  rw [List.length_cons] at hg ⊢
  rw [Xvk]
  split
  ·
   have := Xrq r (g + 1) h.2 (by omega); omega
  ·
   have := Xrq r 0 h.2 (by omega)
   have a := Xeg g (by omega)
   have b := Xqf x (by omega)
   simp only [List.length_append]; omega
theorem Xns (l : List Int) : Xp2 (Yfb l) := Xa1 (Xj1 _) (Xzm _ _)
theorem Xhr (l : List Int) (h : l.all Yib = true) (hl : l.length ≤ 64) : (Yfb l).length ≤ 39 + 78 * l.length := by
 have := Xrq l 0 h (by omega)
 have := Ypz l
 have := Xeg (nz l) (by omega)
 unfold Yfb; rw [List.length_append]; omega
theorem Xfc (l : List Int) (h : l.all Yib = true) (hl : l.length ≤ 64) : Xct l = some (strOfNums (Yfb l)) := by
 unfold Xct
 have key : ∀ (r a : List Int) (n g : Nat) (s : List Int), l = a ++ r → n ≤ a.length → g ≤ a.length → s.length ≤ 78 * a.length → loop (Xdl l) ((n : Int), (g : Int), strOfNums s, (a.length : Int)) = some (((n + nz r : Nat) : Int), strOfNums (s ++ Xvk g r)) := by
  intro r
  induction r with
  | nil =>
   intro a n g s ha _ _ _
   rw [List.append_nil] at ha
   refine Xgx ?_
   unfold Xdl
   simp only
   rw [Xax (by rw [ha]; omega), nz, Xvk, List.append_nil]; rfl
  | cons x r ih =>
   intro a n g s ha hn hg hs
   have hlen : a.length < l.length := by rw [ha]; simp
   have hx : l.getD a.length 0 = x := by rw [ha]; exact Xow a x _ r
   have hxi : -5000 ≤ x ∧ x ≤ 5000 := Yjo.1 (List.all_eq_true.1 h x (by rw [ha]; simp))
   by_cases e : x = 0
   ·
    have hnext := ih (a ++ [x]) n (g + 1) s (by rw [ha]; simp) (by simp; omega) (by simp; omega) (by simp; omega)
    rw [List.length_append, List.length_singleton] at hnext
    rw [nz, Xvk, if_pos e, if_pos e, ← hnext]
    refine Xjx ?_
    unfold Xdl
    simp only [Int.toNat_natCast, hx]
    rw [syA, rqA, Xbi (by simpa using e), Xad, wkA, wkA]
    rfl
   ·
    have u1 := Xeg g (by omega)
    have u2 := Xqf x (by omega)
    have hnext := ih (a ++ [x]) (n + 1) 0 (s ++ ueL g ++ seL x) (by rw [ha]; simp) (by simp; omega) (by omega) (by simp only [List.length_append, List.length_singleton]; omega)
    rw [List.length_append, List.length_singleton] at hnext
    rw [nz, Xvk, if_neg e, if_neg e, show n + (nz r + 1) = n + 1 + nz r by omega, ← List.append_assoc, ← List.append_assoc, ← hnext]
    refine Xjx ?_
    unfold Xdl
    simp only [Int.toNat_natCast, hx]
    rw [syA, rqA, Xbb (by simpa using e), Xbv g (by omega), Xad, Xa3 (by simp only [strOfNums_size]; omega), rqA, Xh6 x (by omega), Xad, Xa5, Xa3 (by simp only [strOfNums_size, List.length_append]; omega), Xa5, Xad, wkA, wkA]
    rfl
 have := key l [] 0 0 [] rfl (by omega) (by omega) (by simp)
 refine (Xel this).trans ?_
 have hz := Ypz l
 have u := Xeg (nz l) (by omega)
 have b := Xrq l 0 h (by omega)
 simp only [Nat.zero_add, List.nil_append]
 rw [Xbv _ (by omega), Xad, Xa3 (by simp only [strOfNums_size]; omega), Xa5]
 rfl
def Ygy (l : List Int) : Bool := decide (l.length = 64) && l.all Yib
theorem Yno (p : Int → Bool) (l : List Int) (f : Int → Option (Lp Int (Ou Unit Bool))) (h : ∀ i : Nat, i < l.length → f (i : Int) = sel (!(p (l.getD i 0))) (some (.done (.ret false))) (some (.go ((i + 1 : Nat) : Int)))) (h0 : f (l.length : Int) = some (.done (.out ()))) :
  loop f 0 = some (if l.all p = true then .out () else .ret false) := by
 have key : ∀ (r a : List Int), l = a ++ r → loop f (a.length : Int) = some (if r.all p = true then .out () else .ret false) := by
  intro r
  induction r with
  | nil => intro a ha; rw [List.append_nil] at ha; rw [← ha, Xer h0]; rfl
  | cons x r ih =>
   intro a ha
   have hlen : a.length < l.length := by rw [ha]; simp
   have hx : l.getD a.length 0 = x := by rw [ha]; exact Xow a x _ r
   have hs := h a.length hlen
   rw [hx] at hs
   cases e : p x with
   | true =>
    rw [e] at hs
    have := ih (a ++ [x]) (by rw [ha]; simp)
    rw [List.length_append, List.length_singleton] at this
    rw [Xjx hs, this, List.all_cons, e, Bool.true_and]
   | false => rw [e] at hs; rw [Xer hs, List.all_cons, e, Bool.false_and]; rfl
 exact key l [] rfl
theorem Ydh (l : List Int) : Xbf l 64 5000 = some (Ygy l) := by
 unfold Xbf Ygy
 by_cases h : l.length = 64
 ·
  rw [Xbb (by simp only [bne_eq_false_iff_eq]; omega), Yno Yib l (Xb9 l 64 5000) (by
   intro i hi
   unfold Xb9
   rw [syA, rqA, wkA (e := 0 - 5000), Xaj, Xad, wkA, Int.toNat_natCast]
   rfl) (by unfold Xb9; rw [snA]), Xad, decide_eq_true h, Bool.true_and]
  cases l.all Yib <;> rfl
 ·
  rw [Xbi (by simp only [bne_iff_ne, ne_eq]; omega), decide_eq_false h, Bool.false_and]
theorem Xtm {l : List Int} (h : Ygy l = true) : l.length = 64 ∧ l.all Yib = true := by
 unfold Ygy at h; rw [Bool.and_eq_true, decide_eq_true_eq] at h; exact h
def Ypb (l : List Int) (c : Xly) : List Int := if (c.Large || c.Exact) = true then Yfb l else Yfb (l.take 16) ++ Yfb ((l.drop 16).take 16) ++ Yfb ((l.drop 32).take 16) ++ Yfb (l.drop 48)
theorem Xj9 {l : List Int} (h : l.all Yib = true) (n : Nat) : (l.take n).all Yib = true := List.all_eq_true.2 fun x hx => List.all_eq_true.1 h x (List.mem_of_mem_take hx)
theorem Xj8 {l : List Int} (h : l.all Yib = true) (n : Nat) : (l.drop n).all Yib = true := List.all_eq_true.2 fun x hx => List.all_eq_true.1 h x (List.mem_of_mem_drop hx)
theorem Yjk (l : List Int) (c : Xly) : Xp2 (Ypb l c) := by
 unfold Ypb
 split
 ·
  exact Xns l
 ·
  exact Xa1 (Xa1 (Xa1 (Xns _) (Xns _)) (Xns _)) (Xns _)
theorem Xx7 {l : List Int} {c : Xly} (h : Ygy l = true) : (Ypb l c).length ≤ 5148 := by
 obtain ⟨h1, h2⟩ := Xtm h
 unfold Ypb
 split
 ·
  have := Xhr l h2 (by omega); omega
 ·
  have a := Xhr (l.take 16) (Xj9 h2 _) (by rw [List.length_take]; omega)
  have b := Xhr ((l.drop 16).take 16) (Xj9 (Xj8 h2 _) _) (by rw [List.length_take, List.length_drop]; omega)
  have c := Xhr ((l.drop 32).take 16) (Xj9 (Xj8 h2 _) _) (by rw [List.length_take, List.length_drop]; omega)
  have d := Xhr (l.drop 48) (Xj8 h2 _) (by rw [List.length_drop]; omega)
  rw [List.length_take] at a
  rw [List.length_take, List.length_drop] at b c
  rw [List.length_drop] at d
  simp only [List.length_append]; omega
theorem Xpy (l : List Int) (c : Xly) (h : Ygy l = true) : Xi1 l c = some (strOfNums (Ypb l c)) := by
 obtain ⟨h1, h2⟩ := Xtm h
 unfold Xi1 Ypb
 rw [Xu8, Xad]
 by_cases e : (c.Large || c.Exact) = true
 ·
  rw [Xbi e, if_pos e, Xfc l h2 (by omega), Xad]
 ·
  rw [Xbb (by simpa using e), if_neg e]
  have a := Xhr (l.take 16) (Xj9 h2 _) (by rw [List.length_take]; omega)
  have b := Xhr ((l.drop 16).take 16) (Xj9 (Xj8 h2 _) _) (by rw [List.length_take, List.length_drop]; omega)
  have c := Xhr ((l.drop 32).take 16) (Xj9 (Xj8 h2 _) _) (by rw [List.length_take, List.length_drop]; omega)
  have d := Xhr (l.drop 48) (Xj8 h2 _) (by rw [List.length_drop]; omega)
  have s1 := Xfc (l.take 16) (Xj9 h2 _) (by rw [List.length_take]; omega)
  have s2 := Xfc ((l.drop 16).take 16) (Xj9 (Xj8 h2 _) _) (by rw [List.length_take, List.length_drop]; omega)
  have s3 := Xfc ((l.drop 32).take 16) (Xj9 (Xj8 h2 _) _) (by rw [List.length_take, List.length_drop]; omega)
  have s4 := Xfc (l.drop 48) (Xj8 h2 _) (by rw [List.length_drop]; omega)
  rw [List.length_take] at a
  rw [List.length_take, List.length_drop] at b c
  rw [List.length_drop] at d
  rw [show ((16 : Int).toNat - (0 : Int).toNat) = 16 from rfl, show (0 : Int).toNat = 0 from rfl, List.drop_zero, show ((32 : Int).toNat - (16 : Int).toNat) = 16 from rfl, show (16 : Int).toNat = 16 from rfl, show ((48 : Int).toNat - (32 : Int).toNat) = 16 from rfl, show (32 : Int).toNat = 32 from rfl, show (48 : Int).toNat = 48 from rfl, Int.toNat_natCast, Ypq]
  rw [rqA, s1, Xad, rqA, s2, Xad, Xa3 (by simp only [strOfNums_size]; omega), rqA, s3, Xad, Xa5, Xa3 (by simp only [strOfNums_size, List.length_append]; omega), rqA, s4, Xad, Xa5, Xa3 (by simp only [strOfNums_size, List.length_append]; omega), Xa5]
def Xph (c : Xly) : Bool := decide (0 ≤ c.Qp ∧ c.Qp ≤ 40) && !(c.Large && c.Exact)
theorem Xfz (c : Xly) : Xdv c = some (Xph c) := by
 unfold Xdv Xph
 rw [Xaj, Xad, Xlo, Xcy, Xad]
 cases c.Large <;> cases c.Exact <;> rfl
def Xu9 (s : Xba) : Bool :=
 if s.Kind = 0 then decide (s.Mode = 0 ∧ s.Dx = 0 ∧ s.Dy = 0 ∧ s.Levels.length = 0)
 else if s.Kind = 1 then decide (s.Mode = 0) && (decide (-16 ≤ s.Dx ∧ s.Dx ≤ 16) && (decide (-16 ≤ s.Dy ∧ s.Dy ≤ 16) && Ygy s.Levels))
 else if s.Kind = 2 then decide (0 ≤ s.Mode ∧ s.Mode ≤ 3) && (decide (s.Dx = 0) && (decide (s.Dy = 0) && Ygy s.Levels))
 else false
theorem Yle (a b : Int) : (a == b) = decide (a = b) := by rw [Bool.eq_iff_iff]; simp
theorem Xwh (s : Xba) : Xh1 s = some (Xu9 s) := by
 unfold Xh1 Xu9
 simp only [Xaj, Ydh, Xad, Xcy, Yle]
 simp only [Yoi]
 by_cases h0 : s.Kind = 0
 ·
  rw [if_pos h0, if_pos h0]; congr 1; rw [Bool.eq_iff_iff]; simp
 ·
  rw [if_neg h0, if_neg h0]
  by_cases h1 : s.Kind = 1
  ·
   rw [if_pos h1, if_pos h1]
  ·
   rw [if_neg h1, if_neg h1]
   by_cases h2 : s.Kind = 2
   ·
    rw [decide_eq_true h2, Bool.true_and, if_pos h2]
   ·
    rw [decide_eq_false h2, Bool.false_and, if_neg h2]
def sqL (s : Xba) (c : Xly) : List Int :=
 (if c.Key = true then [] else ueL s.Kind.toNat) ++
 (if s.Kind = 1 then seL s.Dx ++ seL s.Dy ++ Ypb s.Levels c else if s.Kind = 2 then ueL s.Mode.toNat ++ Ypb s.Levels c else [])
theorem Ybr {s : Xba} (h : Xu9 s = true) : 0 ≤ s.Kind ∧ s.Kind ≤ 2 := by
 unfold Xu9 at h
 repeat' split at h
 all_goals first | omega | simp at h
theorem Yft {s : Xba} (h : Xu9 s = true) (h1 : s.Kind = 1) : (-16 ≤ s.Dx ∧ s.Dx ≤ 16) ∧ (-16 ≤ s.Dy ∧ s.Dy ≤ 16) ∧ Ygy s.Levels = true := by
 unfold Xu9 at h
 rw [if_neg (by omega), if_pos h1] at h
 simp only [Bool.and_eq_true, decide_eq_true_eq] at h
 exact ⟨h.2.1, h.2.2.1, h.2.2.2⟩
theorem Yfu {s : Xba} (h : Xu9 s = true) (h1 : s.Kind = 2) : (0 ≤ s.Mode ∧ s.Mode ≤ 3) ∧ Ygy s.Levels = true := by
 unfold Xu9 at h
 rw [if_neg (by omega), if_neg (by omega), if_pos h1] at h
 simp only [Bool.and_eq_true, decide_eq_true_eq] at h
 exact ⟨h.1, h.2.2.2⟩
theorem Ymw (s : Xba) (c : Xly) : Xp2 (sqL s c) := by
 unfold sqL
 refine Xa1 ?_ ?_
 ·
  split
  ·
   exact Xk9
  ·
   exact Xj1 _
 ·
  split
  ·
   exact Xa1 (Xa1 (Xj1 _) (Xj1 _)) (Yjk _ _)
  ·
   split
   ·
    exact Xa1 (Xj1 _) (Yjk _ _)
   ·
    exact Xk9
theorem Ymx {s : Xba} {c : Xly} (h : Xu9 s = true) : (sqL s c).length ≤ 5265 := by
 have hk := Ybr h
 have u := Xeg s.Kind.toNat (by omega)
 have e1 : (if c.Key = true then [] else ueL s.Kind.toNat).length ≤ 39 := by split; simp; exact u.1
 unfold sqL
 rw [List.length_append]
 by_cases h1 : s.Kind = 1
 ·
  obtain ⟨a, b, d⟩ := Yft h h1
  have x := Xqf s.Dx (by omega)
  have y := Xqf s.Dy (by omega)
  have z := Xx7 (c := c) d
  rw [if_pos h1]; simp only [List.length_append]; omega
 ·
  by_cases h2 : s.Kind = 2
  ·
   obtain ⟨a, d⟩ := Yfu h h2
   have x := Xeg s.Mode.toNat (by omega)
   have z := Xx7 (c := c) d
   rw [if_neg h1, if_pos h2]; simp only [List.length_append]; omega
  ·
   rw [if_neg h1, if_neg h2]; simp only [List.length_nil]; omega
theorem Ydn (s : Xba) (c : Xly) (h : Xu9 s = true) : Xk3 s c = some (strOfNums (sqL s c)) := by
 have hk := Ybr h
 have u := Xeg s.Kind.toNat (by omega)
 unfold Xk3
 have e1 : (sel (!c.Key) (bnd (Xbr s.Kind) fun q2 => some q2) (some ⟨#[]⟩)) = some (strOfNums (if c.Key = true then [] else ueL s.Kind.toNat)) := by
  rw [show s.Kind = ((s.Kind.toNat : Nat) : Int) by omega, Xbv _ (by omega), Xad, Int.toNat_natCast]
  cases c.Key <;> rfl
 rw [e1, Xad]
 have e2 : (if c.Key = true then [] else ueL s.Kind.toNat).length ≤ 39 := by split; simp; exact u.1
 unfold sqL
 generalize (if c.Key = true then [] else ueL s.Kind.toNat) = k at e2 ⊢
 by_cases h1 : s.Kind = 1
 ·
  obtain ⟨a, b, d⟩ := Yft h h1
  have x := Xqf s.Dx (by omega)
  have y := Xqf s.Dy (by omega)
  have z := Xx7 (c := c) d
  rw [if_pos h1, Xbi (by simpa using h1), Xh6 _ (by omega), Xad, Xa3 (by simp only [strOfNums_size]; omega), Xh6 _ (by omega), Xad, Xa5, Xa3 (by simp only [strOfNums_size, List.length_append]; omega), Xpy _ c d, Xad, Xa5, Xa3 (by simp only [strOfNums_size, List.length_append]; omega), Xa5]
  simp only [List.append_assoc]
 ·
  rw [if_neg h1, Xbb (by simpa using h1)]
  by_cases h2 : s.Kind = 2
  ·
   obtain ⟨a, d⟩ := Yfu h h2
   have x := Xeg s.Mode.toNat (by omega)
   have z := Xx7 (c := c) d
   rw [if_pos h2, Xbi (by simpa using h2), show s.Mode = ((s.Mode.toNat : Nat) : Int) by omega, Xbv _ (by omega), Xad, Xa3 (by simp only [strOfNums_size]; omega), Xpy _ c d, Xad, Xa5, Xa3 (by simp only [strOfNums_size, List.length_append]; omega), Xa5, Int.toNat_natCast]
   simp only [List.append_assoc]
  ·
   rw [if_neg h2, Xbb (by simpa using h2), List.append_nil]
def Xp0 : List Xba → Xly → List Int
 | [], _ => []
 | s :: r, c => sqL s c ++ Xp0 r c
theorem Yeh : ∀ (l : List Xba) (c : Xly), Xp2 (Xp0 l c)
 | [], _ => Xk9
 | s :: r, c => Xa1 (Ymw s c) (Yeh r c)
theorem Yiy (b : ByteArray) (i : Int) : 0 ≤ Xei b i ∧ Xei b i ≤ 255 := by
 unfold Xei
 split
 ·
  rename_i h
  have := (b[i.toNat]'h).toNat_lt
  omega
 ·
  omega
theorem Xcx {p : Pic} (h : Xef p = true) : (1 ≤ p.Wide ∧ p.Wide ≤ 256) ∧ (1 ≤ p.High ∧ p.High ≤ 256) ∧ (p.Dots.size : Int) = p.Wide * p.High := by
 unfold Xef at h
 simp only [Bool.and_eq_true, decide_eq_true_eq, beq_iff_eq] at h
 exact ⟨h.1, h.2.1, h.2.2⟩
theorem Xyb {p : Pic} (h1 : 1 ≤ p.Wide ∧ p.Wide ≤ 256) (h2 : 1 ≤ p.High ∧ p.High ≤ 256) (h3 : (p.Dots.size : Int) = p.Wide * p.High) : Xef p = true := by
 unfold Xef
 simp only [Bool.and_eq_true, decide_eq_true_eq, beq_iff_eq]
 exact ⟨h1, h2, h3⟩
def Yke (p : Pic) (x y : Int) : Int := Xei p.Dots (Xc0 y 0 (p.High - 1) * p.Wide + Xc0 x 0 (p.Wide - 1))
theorem Xmk (p : Pic) (x y : Int) : 0 ≤ Yke p x y ∧ Yke p x y ≤ 255 := Yiy _ _
theorem Yll {p : Pic} (ok : Xef p = true) (x y : Int) : 0 ≤ Xc0 y 0 (p.High - 1) * p.Wide + Xc0 x 0 (p.Wide - 1) ∧ Xc0 y 0 (p.High - 1) * p.Wide + Xc0 x 0 (p.Wide - 1) < p.Dots.size ∧ 0 ≤ Xc0 y 0 (p.High - 1) * p.Wide ∧ Xc0 y 0 (p.High - 1) * p.Wide ≤ 65536 := by
 obtain ⟨h1, h2, h3⟩ := Xcx ok
 have b1 := Xl0 (n := y) (a := 0) (b := p.High - 1) (by omega)
 have b2 := Xl0 (n := x) (a := 0) (b := p.Wide - 1) (by omega)
 have m1 := Int.mul_nonneg b1.1 (show 0 ≤ p.Wide by omega)
 have m2 := Int.mul_le_mul_of_nonneg_right b1.2 (show 0 ≤ p.Wide by omega)
 have m3 : (p.High - 1) * p.Wide = p.Wide * p.High - p.Wide := by rw [Int.sub_mul, Int.one_mul, Int.mul_comm]
 have m4 := (Xka h1 h2).2
 omega
theorem Xhv {p : Pic} (ok : Xef p = true) (x y : Int) : Xc5 p x y = some (Yke p x y) := by
 obtain ⟨h1, h2, h3⟩ := Xcx ok
 unfold Xc5 Yke
 rw [Xb5, Xad, ok, Bool.not_true, Xa7, Xcf, Xad, Xcf, Xad, wkA (e := p.High - 1), wkA (e := p.Wide - 1)]
 obtain ⟨p1, p2, p3, p4⟩ := Yll ok x y
 have b2 := Xl0 (n := x) (a := 0) (b := p.Wide - 1) (by omega)
 have br := Yiy p.Dots (Xc0 y 0 (p.High - 1) * p.Wide + Xc0 x 0 (p.Wide - 1))
 rw [wkA (e := Xc0 y 0 (p.High - 1) * p.Wide), wkA (e := Xc0 y 0 (p.High - 1) * p.Wide + Xc0 x 0 (p.Wide - 1)), Xa3 ⟨p1, p2⟩, wkA]
def Ynr (p : Pic) (x y : Int) (i : Nat) : Int := Yke p (x + ((i % 8 : Nat) : Int)) (y + ((i / 8 : Nat) : Int))
def Yk3 (p : Pic) (x y : Int) (n : Nat) : List Int := (List.range n).map (Ynr p x y)
theorem Ylf (p : Pic) (x y : Int) (n : Nat) : Yk3 p x y (n + 1) = Yk3 p x y n ++ [Ynr p x y n] := by simp [Yk3, List.range_succ]
theorem Xyl (p : Pic) (x y : Int) (n : Nat) : (Yk3 p x y n).length = n := by simp [Yk3]
def Ylk (x : Int) : Bool := decide (0 ≤ x ∧ x ≤ 255)
def Xdy (l : List Int) : Bool := decide (l.length = 64) && l.all Ylk
theorem Xhl {l : List Int} (h : Xdy l = true) : l.length = 64 ∧ ∀ i : Nat, i < 64 → 0 ≤ l.getD i 0 ∧ l.getD i 0 ≤ 255 := by
 simp only [Xdy, Bool.and_eq_true, decide_eq_true_eq] at h
 refine ⟨h.1, fun i hi => ?_⟩
 have := List.all_eq_true.1 h.2 (l.getD i 0) (by rw [Xhm l i (by omega)]; exact List.getElem_mem _)
 simpa [Ylk] using this
theorem Xlz (p : Pic) (x y : Int) : Xdy (Yk3 p x y 64) = true := by
 simp only [Xdy, Xyl, decide_true, Bool.true_and, List.all_eq_true]
 intro z hz
 obtain ⟨i, _, rfl⟩ := List.mem_map.1 hz
 simp only [Ylk, decide_eq_true_eq]
 exact Xmk _ _ _
theorem Xeu {p : Pic} (ok : Xef p = true) (x y : Int) (hx : -1000 ≤ x ∧ x ≤ 1000) (hy : -1000 ≤ y ∧ y ≤ 1000) : Xcp p x y = some (Yk3 p x y 64) := by
 have hm : maxLen = 9223372036854775807 := rfl
 unfold Xcp
 rw [Xb5, Xad, ok, Xa8, Xaj, Xad, syA, Xaj, Xad, Xad, decide_eq_true (by omega), Bool.not_true, Xa7]
 have key : ∀ i : Nat, i ≤ 64 → loop (Xev p x y) ((i : Int), Yk3 p x y i) = some (Yk3 p x y 64) := by
  refine Xgv _ ?_ ?_
  ·
   exact Xgx (by unfold Xev; rw [Xax (by simp)])
  ·
   intro i hi ih
   refine lgo (y := (((i + 1 : Nat) : Int), Yk3 p x y (i + 1))) ?_ ih
   unfold Xev
   simp only
   rw [syA, rqA, rqA, Xbw (by omega), Xb0 (by omega), wkA (e := (i : Int) / 8), wkA (e := x + (i : Int) % 8), wkA (e := y + (i : Int) / 8), Xhv ok, Xad, Xa3 (by rw [Xyl]; simp only [List.length_singleton]; omega), wkA (e := (i : Int) + 1)]
   have e2 : Yke p (x + (i : Int) % 8) (y + (i : Int) / 8) = Ynr p x y i := by unfold Ynr; congr 1
   rw [e2, ← Ylf]
   rfl
 have := key 0 (by omega)
 exact (Xel this).trans rfl
def Yho (x : Int) : Int := if x < 0 then -x else x
def Xvb (a b : List Int) : Nat → Int
 | 0 => 0
 | n + 1 => Xvb a b n + Yho (a.getD n 0 - b.getD n 0)
theorem Xu3 {a b : List Int} (ha : Xdy a = true) (hb : Xdy b = true) : ∀ n : Nat, n ≤ 64 → 0 ≤ Xvb a b n ∧ Xvb a b n ≤ 255 * n
 | 0, _ => by simp [Xvb]
 | n + 1, h => by
  have ih := Xu3 ha hb n (by omega)
  have p := (Xhl ha).2 n (by omega)
  have q := (Xhl hb).2 n (by omega)
  simp only [Xvb, Yho]
  split <;> omega
def Yrw (d : Int) : Int := ((seL d).length : Int)
theorem Yba (c : Xaw) (n : Int) (hc : Xc1 c) (h0 : 0 ≤ n) (h1 : n ≤ 100000) : ∃ s c', Xjn c n = some (s, c') ∧ (s.size : Int) = n ∧ Xc1 c' := by
 have hm : maxLen = 9223372036854775807 := rfl
 unfold Xjn
 obtain ⟨z, c0, ez, z0, z1, hz⟩ := Xcj c hc
 rw [ez, Xad]
 simp only
 obtain ⟨o, h, h2, h3⟩ := Xgh (f := Xid n) (fun v => (0 ≤ v.1 ∧ v.1 ≤ 255) ∧ 0 ≤ v.2.1 ∧ v.2.1 ≤ n ∧ Xc1 ⟨v.2.2.1, v.2.2.2.1, v.2.2.2.2.1⟩ ∧ (v.2.2.2.2.2.length : Int) = v.2.1) (fun v => (n - v.2.1).toNat) (fun _ o => (o.1.length : Int) = n ∧ Xc1 ⟨o.2.1, o.2.2.1, o.2.2.2⟩) (by
  intro ⟨w, i, b, j, h, l⟩ ⟨hw, h1, h2, h3, h4⟩
  unfold Xid
  simp only at hw h1 h2 h3 h4 ⊢
  by_cases hi : i < n
  ·
   rw [Xa6 hi]
   obtain ⟨x, c', ex, x0, x1, _, hx⟩ := Xar _ 6 h3
   rw [ex, Xad]
   simp only
   have step : ∃ w' c2, (sel (x == 0) (bnd (Xbk c') fun q16 => some (q16.1, q16.2.b_, q16.2.i_, q16.2.h_)) (sel (x == 1) (bnd (Xat c' 9) fun q17 => some ((IntKind.wrap .i64 (BitVec.ofInt (IntKind.bits .i64) (Xaa .i64 ((Xaa .i64 (w + q17.1)) + 252)) &&& BitVec.ofInt (IntKind.bits .i64) 255).toNat), q17.2.b_, q17.2.i_, q17.2.h_)) (some (w, c'.b_, c'.i_, c'.h_)))) = some (w', c2.b_, c2.i_, c2.h_) ∧ (0 ≤ w' ∧ w' ≤ 255) ∧ Xc1 c2 := by
    cases e0 : (x == 0) with
    | true =>
     obtain ⟨y, c2, ey, y0, y1, hy⟩ := Xcj c' hx
     rw [Xa8, ey, Xad]
     exact ⟨y, c2, rfl, ⟨y0, y1⟩, hy⟩
    | false =>
     rw [Xa7]
     cases e1 : (x == 1) with
     | true =>
      obtain ⟨y, c2, ey, y0, y1, _, hy⟩ := Xar c' 9 hx
      rw [Xa8, ey, Xad]
      exact ⟨_, c2, rfl, Xyh _, hy⟩
     | false => rw [Xa7]; exact ⟨w, c', rfl, hw, hx⟩
   obtain ⟨w', c2, es, hw', hc2⟩ := step
   rw [es, Xad, Xa3 (by rw [hm]; simp only [List.length_singleton]; omega)]
   refine .inr ⟨_, rfl, ?_, ?_, fun _ h => h⟩
   ·
    simp only
    rw [wkA (e := i + 1)]
    exact ⟨hw', by omega, by omega, hc2, by simp; omega⟩
   ·
    simp only; rw [wkA (e := i + 1)]; omega
  ·
   rw [Xax hi]
   exact .inl ⟨_, rfl, by simp only; omega, h3⟩) (z, 0, c0.b_, c0.i_, c0.h_, []) ⟨⟨z0, z1⟩, by simp, h0, hz, by simp⟩
 rw [h, Xad]
 exact ⟨_, _, rfl, by rw [strOfNums_size]; exact h2, h3⟩
theorem Xxl (c : Xaw) (w h : Int) (hc : Xc1 c) (hw : 1 ≤ w ∧ w ≤ 256) (hh : 1 ≤ h ∧ h ≤ 256) : ∃ p c', Xie c w h = some (p, c') ∧ p.Wide = w ∧ p.High = h ∧ Xef p = true ∧ Xc1 c' := by
 have a := Xka hw hh
 unfold Xie
 rw [wkA (e := w * h)]
 obtain ⟨s, c', e, hs, hc'⟩ := Yba c (w * h) hc (by omega) (by omega)
 rw [e, Xad]
 exact ⟨_, _, rfl, rfl, rfl, Xyb hw hh hs, hc'⟩
theorem Ybm (c : Xaw) (p : Pic) (hc : Xc1 c) (ok : Xef p = true) : ∃ q c', Xjo c p = some (q, c') ∧ q.Wide = p.Wide ∧ q.High = p.High ∧ Xef q = true ∧ Xc1 c' := by
 have hm : maxLen = 9223372036854775807 := rfl
 obtain ⟨k1, k2, k3⟩ := Xcx ok
 have ar := Xka k1 k2
 unfold Xjo
 obtain ⟨x, c1, e1, x0, x1, _, h1⟩ := Xar c 7 hc
 obtain ⟨y, c2, e2, y0, y1, _, h2⟩ := Xar c1 5 h1
 obtain ⟨z, c3, e3, h3⟩ := Xdg c2 3 h2
 have x1' := x1 (by omega)
 have y1' := y1 (by omega)
 rw [e1, Xad]
 simp only
 rw [e2, Xad]
 simp only
 rw [e3, Xad]
 simp only
 rw [wkA (e := x - 3), wkA (e := y - 2)]
 have hv : ∃ a b : Int, (-10 ≤ a ∧ a ≤ 10) ∧ (-10 ≤ b ∧ b ≤ 10) ∧ sel z (some ((0 : Int), (0 : Int), c3.b_, c3.i_, c3.h_)) (some (x - 3, y - 2, c3.b_, c3.i_, c3.h_)) = some (a, b, c3.b_, c3.i_, c3.h_) := by
  cases z with
  | true => exact ⟨0, 0, by omega, by omega, rfl⟩
  | false => exact ⟨x - 3, y - 2, by omega, by omega, rfl⟩
 obtain ⟨a, b, ha, hb, hv⟩ := hv
 rw [hv, Xad]
 obtain ⟨o, h, ho⟩ := Xgh (f := Xih p (a, b, c3.b_, c3.i_, c3.h_)) (fun v => 0 ≤ v.1 ∧ v.1 ≤ (p.Dots.size : Int) ∧ (v.2.length : Int) = v.1) (fun v => ((p.Dots.size : Int) - v.1).toNat) (fun _ o => (o.length : Int) = (p.Dots.size : Int)) (by
  intro ⟨i, l⟩ ⟨g1, g2, g3⟩
  unfold Xih
  simp only at g1 g2 g3 ⊢
  by_cases hi : i < (p.Dots.size : Int)
  ·
   rw [Xa6 hi, rqA, rqA, Xhv ok, Xad, Xa3 (by rw [hm]; simp only [List.length_singleton]; omega), wkA (e := i + 1)]
   exact .inr ⟨_, rfl, ⟨by simp only; omega, by simp only; omega, by simp; omega⟩, by simp only; omega, fun _ h => h⟩
  ·
   rw [Xax hi]
   exact .inl ⟨_, rfl, by omega⟩) (0, []) ⟨by simp, by simp, by simp⟩
 rw [h, Xad]
 obtain ⟨o2, h', g1, g2⟩ := Xgh (f := Xii) (fun v => 0 ≤ v.1 ∧ v.1 ≤ 6 ∧ Xc1 ⟨v.2.1, v.2.2.1, v.2.2.2.1⟩ ∧ (v.2.2.2.2.length : Int) = p.Dots.size) (fun v => (6 - v.1).toNat) (fun _ o => (o.1.length : Int) = p.Dots.size ∧ Xc1 ⟨o.2.1, o.2.2.1, o.2.2.2⟩) (by
  intro ⟨i, b, j, h, l⟩ ⟨g1, g2, g3, g4⟩
  unfold Xii
  simp only at g1 g2 g3 g4 ⊢
  obtain ⟨x, c', ex, x0, x1, _, hx⟩ := Xar _ 6 g3
  have x1' := x1 (by omega)
  rw [ex, Xad]
  simp only
  by_cases hi : i < x
  ·
   obtain ⟨y, c2, ey, y0, y1, _, hy⟩ := Xar c' l.length hx
   have y1' := y1 (by omega)
   obtain ⟨z, c3, ez, z0, z1, hz⟩ := Xcj c2 hy
   rw [Xa6 hi, ey, Xad]
   simp only
   rw [ez, Xad]
   simp only
   rw [rqA, rqA, wkA (e := i + 1)]
   exact .inr ⟨_, rfl, ⟨by simp only; omega, by simp only; omega, hz, by simp only [List.length_set]; omega⟩, by simp only; omega, fun _ h => h⟩
  ·
   rw [Xax hi]
   exact .inl ⟨_, rfl, g4, hx⟩) (0, c3.b_, c3.i_, c3.h_, o) ⟨by simp, by simp, h3, by simp only; omega⟩
 rw [h', Xad]
 refine ⟨_, _, rfl, rfl, rfl, Xyb k1 k2 ?_, g2⟩
 simp only
 rw [strOfNums_size]; omega
def Xhn (p : Pic) (x y : Int) : Bool := decide (0 ≤ x ∧ x ≤ p.Wide - 8 ∧ 0 ≤ y ∧ y ≤ p.High - 8)
def rd (x : List Int) (i : Int) : Int := x.getD i.toNat 0
theorem Yju (x : List Int) (i : Int) : x.getD i.toNat 0 = rd x i := rfl
theorem Xnq (s : ByteArray) (i : Int) : rd (Xal s) i = Xei s i := by
 unfold rd Xal Xei
 by_cases h : i.toNat < s.size
 ·
  rw [dif_pos h, List.getD_eq_getElem?_getD, List.getElem?_map, Array.getElem?_toList, Array.getElem?_eq_getElem h]
  rfl
 ·
  rw [dif_neg h, List.getD_eq_getElem?_getD, List.getElem?_eq_none (by rw [List.length_map, Array.length_toList]; exact Nat.le_of_not_lt h)]
  rfl
def tz (x : List Int) : Nat := (x.reverse.takeWhile (· == 0)).length
theorem Ybu (x : List Int) : tz (x ++ [0]) = tz x + 1 := by simp [tz, List.takeWhile_cons]
theorem Yir (x : List Int) (b : Int) (h : b ≠ 0) : tz (x ++ [b]) = 0 := by simp [tz, List.takeWhile_cons, h]
theorem Yqk (x : List Int) : tz x ≤ x.length := by
 have := List.Sublist.length_le (List.takeWhile_sublist (fun a : Int => a == 0) (l := x.reverse))
 simpa [tz] using this
theorem Yml (x : List Int) (b c : Int) : rd (x ++ [b, c]) ((x.length : Int) + 1) = c ∧ rd (x ++ [b, c]) (x.length : Int) = b := by
 constructor
 ·
  simp [rd, List.getD_eq_getElem?_getD, show ((x.length : Int) + 1).toNat = x.length + 1 from by omega]
 ·
  simp [rd, List.getD_eq_getElem?_getD]
theorem Yph (x : List Int) : 2 ≤ tz x ↔ (2 ≤ x.length ∧ rd x ((x.length : Int) - 1) = 0 ∧ rd x ((x.length : Int) - 2) = 0) := by
 rcases List.eq_nil_or_concat x with rfl | ⟨y, c, rfl⟩
 ·
  simp [tz]
 ·
  rcases List.eq_nil_or_concat y with rfl | ⟨z, b, rfl⟩
  ·
   constructor
   ·
    intro h; have := Yqk ([].concat c); simp at this h; omega
   ·
    intro h; simp at h
  ·
   simp only [List.concat_eq_append, List.append_assoc, List.singleton_append]
   have e1 := (Yml z b c).1
   have e2 := (Yml z b c).2
   rw [show (((z ++ [b, c]).length : Nat) : Int) - 1 = (z.length : Int) + 1 by simp; omega, show (((z ++ [b, c]).length : Nat) : Int) - 2 = (z.length : Int) by simp, e1, e2]
   by_cases hc : c = 0
   ·
    by_cases hb : b = 0
    ·
     subst hc; subst hb
     rw [show z ++ [(0 : Int), 0] = (z ++ [0]) ++ [0] by simp, Ybu, Ybu]
     simp
    ·
     subst hc
     rw [show z ++ [b, (0 : Int)] = (z ++ [b]) ++ [0] by simp, Ybu, Yir _ _ hb]
     simp [hb]
   ·
    rw [show z ++ [b, c] = (z ++ [b]) ++ [c] by simp, Yir _ _ hc]
    simp [hc]
def Yep (x : Int) : Prop := 0 ≤ x ∧ x ≤ 255
theorem Xy7 (s : ByteArray) : ∀ x ∈ Xal s, Yep x := by
 intro x hx
 simp only [Xal, List.mem_map] at hx
 obtain ⟨b, _, rfl⟩ := hx
 have := b.toNat_lt
 unfold Yep
 omega
theorem Ygz (x : List Int) (h : ∀ c ∈ x, Yep c) : Xal (strOfNums x) = x := Xx9 x h
theorem Xo7 (s : ByteArray) : strOfNums (Xal s) = s := by
 apply ByteArray.ext
 apply Array.ext'
 simp only [strOfNums, Xal, List.map_map]
 conv => rhs; rw [← List.map_id s.data.toList]
 refine List.map_congr_left fun c _ => ?_
 simp
theorem Yei {a b : ByteArray} : a.toList = b.toList ↔ a = b := by
 constructor
 ·
  intro h
  rw [ByteArray.toList_eq, ByteArray.toList_eq] at h
  exact ByteArray.ext (Array.ext' h)
 ·
  intro h; rw [h]
theorem Xb7 (s : ByteArray) (i j : Nat) : Xal (s.extract i j) = ((Xal s).take j).drop i := by
 simp [Xal, ByteArray.data_extract, List.map_drop, List.map_take, List.drop_take]
theorem Xl6 {a b : ByteArray} (h : Xal a = Xal b) : a = b := by rw [← Xo7 a, h, Xo7]
def Xb3 (x : List Int) (b : Int) : List Int := (if b < 4 ∧ 2 ≤ tz x then x ++ [3] else x) ++ [b]
def Yd3 (x : List Int) (t : List Int) : List Int := t.foldl Xb3 x
theorem Yeu (x : List Int) : Yd3 x [] = x := rfl
theorem Xne (x : List Int) (b : Int) (t : List Int) : Yd3 x (b :: t) = Yd3 (Xb3 x b) t := rfl
theorem Xli (a : List Int) (i : Nat) (h : i < a.length) : a.drop i = rd a i :: a.drop (i + 1) := by
 rw [List.drop_eq_getElem_cons h]; simp [rd, List.getD_eq_getElem?_getD, List.getElem?_eq_getElem h]
theorem Ylo (t : List Int) : ∀ x, (∀ c ∈ x, Yep c) → (∀ c ∈ t, Yep c) → ∀ c ∈ Yd3 x t, Yep c := by
 induction t with
 | nil => intro x hx _; exact hx
 | cons b t ih =>
  intro x hx ht
  rw [Xne]
  refine ih _ ?_ (fun c hc => ht c (List.mem_cons_of_mem _ hc))
  intro c hc
  unfold Xb3 at hc
  rw [List.mem_append] at hc
  rcases hc with hc | hc
  ·
   split at hc
   ·
    rw [List.mem_append] at hc
    rcases hc with hc | hc
    ·
     exact hx c hc
    ·
     rw [List.mem_singleton] at hc; subst hc; unfold Yep; omega
   ·
    exact hx c hc
  ·
   rw [List.mem_singleton] at hc; subst hc; exact ht _ (List.mem_cons_self)
theorem Ynw (t : List Int) : ∀ x, (Yd3 x t).length ≤ x.length + 2 * t.length := by
 induction t with
 | nil => intro x; rw [Yeu]; simp
 | cons b t ih =>
  intro x
  rw [Xne]
  have := ih (Xb3 x b)
  have h2 : (Xb3 x b).length ≤ x.length + 2 := by unfold Xb3; split <;> simp
  rw [List.length_cons]; omega
def Xem (a : ByteArray) : ByteArray × Bool := if 1 ≤ a.size ∧ a.size ≤ 60000 ∧ Xei a ((a.size : Int) - 1) ≠ 0 then (strOfNums (Yd3 [] (Xal a)), true) else ((⟨#[]⟩ : ByteArray), false)
theorem Yga (a : ByteArray) : (Xem a).1.size ≤ 120000 := by
 unfold Xem
 split
 ·
  rename_i h
  have := Ynw (Xal a) []
  rw [Xav, List.length_nil] at this
  simp only [strOfNums_size]
  omega
 ·
  exact Nat.zero_le _
theorem Xov (u : ByteArray) (h : (Xem u).2 = true) : Xal (Xem u).1 = Yd3 [] (Xal u) ∧ 1 ≤ u.size ∧ u.size ≤ 60000 ∧ Xei u ((u.size : Int) - 1) ≠ 0 := by
 unfold Xem at h ⊢
 split at h
 ·
  rename_i hc
  rw [if_pos hc]
  refine ⟨?_, hc⟩
  simp only []
  exact Ygz _ (Ylo _ _ (by simp) (Xy7 u))
 ·
  simp at h
def unL : List Int → List Int → List Int
 | _, [] => []
 | x, c :: t => (if c = 3 ∧ 2 ≤ tz x then [] else [c]) ++ unL (x ++ [c]) t
theorem Xuz : ∀ (t x : List Int), (unL x t).length ≤ t.length
 | [], x => by simp [unL]
 | c :: t, x => by
  rw [unL, List.length_append, List.length_cons]
  have := Xuz t (x ++ [c])
  split <;> simp <;> omega
theorem Yrp (t : List Int) : ∀ x, ∃ e, Yd3 x t = x ++ e ∧ unL x e = t := by
 induction t with
 | nil => intro x; exact ⟨[], by simp [Yeu], rfl⟩
 | cons b t ih =>
  intro x
  obtain ⟨e, h1, h2⟩ := ih (Xb3 x b)
  rw [Xne, h1]
  by_cases hc : b < 4 ∧ 2 ≤ tz x
  ·
   refine ⟨3 :: b :: e, ?_, ?_⟩
   ·
    simp [Xb3, if_pos hc]
   ·
    rw [unL, if_pos ⟨rfl, hc.2⟩, List.nil_append, unL, if_neg (fun h => by rw [Yir x 3 (by decide)] at h; omega)]
    simp only [Xb3, if_pos hc] at h2
    rw [h2]; rfl
  ·
   refine ⟨b :: e, ?_, ?_⟩
   ·
    simp [Xb3, if_neg hc]
   ·
    rw [unL, if_neg (fun h => hc ⟨by omega, h.2⟩)]
    simp only [Xb3, if_neg hc] at h2
    rw [h2]; rfl
def unV (a : ByteArray) : ByteArray × Bool := if Xem (strOfNums (unL [] (Xal a))) = (a, true) then (strOfNums (unL [] (Xal a)), true) else ((⟨#[]⟩ : ByteArray), false)
theorem Yqo (u : ByteArray) (h : (Xem u).2 = true) : unV (Xem u).1 = (u, true) := by
 have hb := (Xov u h).1
 obtain ⟨e, h1, h2⟩ := Yrp (Xal u) []
 rw [h1, List.nil_append] at hb
 unfold unV
 rw [hb, h2, Xo7, if_pos (by rw [← h])]
theorem Xjq (a : List Int) (i : Nat) (h : i < a.length) : a.take (i + 1) = a.take i ++ [rd a i] := by
 rw [List.take_succ_eq_append_getElem h]; simp [rd, List.getD_eq_getElem?_getD, List.getElem?_eq_getElem h]
theorem Yoy (a : ByteArray) (i : Nat) (h : i < a.size) : unL ((Xal a).take i) ((Xal a).drop i) = (if Xei a i = 3 ∧ 2 ≤ tz ((Xal a).take i) then [] else [Xei a i]) ++ unL ((Xal a).take (i + 1)) ((Xal a).drop (i + 1)) := by
 rw [Xli _ _ (by rw [Xav]; exact h), unL, Xnq, Xjq _ _ (by rw [Xav]; exact h), Xnq]
def Ymc (x : List Int) : Prop := ∀ i : Nat, i + 2 < x.length → rd x i = 0 → rd x ((i : Int) + 1) = 0 → rd x ((i : Int) + 2) ≠ 1
theorem Xnp (x y : List Int) (i : Int) (h : i.toNat < x.length) : rd (x ++ y) i = rd x i := by
 simp [rd, List.getD_eq_getElem?_getD, List.getElem?_append_left h]
theorem Xzc (x y : List Int) (i : Int) (h : x.length ≤ i.toNat) : rd (x ++ y) i = rd y ((i.toNat - x.length : Nat) : Int) := by
 simp [rd, List.getD_eq_getElem?_getD, List.getElem?_append_right h]
theorem Xy6 (x : List Int) (c : Int) (h : Ymc x) (hc : 2 ≤ tz x → c ≠ 1) : Ymc (x ++ [c]) := by
 intro i hi h0 h1
 rw [List.length_append, List.length_singleton] at hi
 rw [Xnp _ _ _ (by omega)] at h0 h1
 by_cases he : i + 2 < x.length
 ·
  rw [Xnp _ _ _ (by omega)]; exact h i he h0 h1
 ·
  rw [Xzc _ _ _ (by omega), show ((i : Int) + 2).toNat - x.length = 0 by omega]
  refine hc ((Yph x).2 ⟨by omega, ?_, ?_⟩)
  ·
   rw [show (x.length : Int) - 1 = (i : Int) + 1 by omega]; exact h1
  ·
   rw [show (x.length : Int) - 2 = (i : Int) by omega]; exact h0
theorem Ymd (t : List Int) : ∀ x, Ymc x → Ymc (Yd3 x t) := by
 induction t with
 | nil => intro x h; exact h
 | cons b t ih =>
  intro x h
  rw [Xne]
  refine ih _ ?_
  unfold Xb3
  split
  ·
   rename_i hc
   exact Xy6 _ _ (Xy6 _ _ h (fun _ => by decide)) (fun h2 => by rw [Yir x 3 (by decide)] at h2; omega)
  ·
   rename_i hc
   exact Xy6 _ _ h (fun h2 hb => hc ⟨by omega, h2⟩)
theorem Ynx (t : List Int) (x : List Int) (h : 1 ≤ t.length) : 1 ≤ (Yd3 x t).length ∧ rd (Yd3 x t) (((Yd3 x t).length : Int) - 1) = rd t ((t.length : Int) - 1) := by
 rcases List.eq_nil_or_concat t with rfl | ⟨y, c, rfl⟩
 ·
  simp at h
 ·
  rw [List.concat_eq_append, Yd3, List.foldl_append]
  simp only [List.foldl_cons, List.foldl_nil]
  unfold Xb3
  generalize (if c < 4 ∧ 2 ≤ tz (List.foldl Xb3 x y) then List.foldl Xb3 x y ++ [3] else List.foldl Xb3 x y) = z
  refine ⟨by simp, ?_⟩
  rw [Xzc _ _ _ (by simp), Xzc _ _ _ (by simp)]
  congr 1
  simp
theorem Yf9 (u : ByteArray) (h : (Xem u).2 = true) : 1 ≤ (Xem u).1.size ∧ Ymc (Xal (Xem u).1) ∧ rd (Xal (Xem u).1) (((Xem u).1.size : Int) - 1) ≠ 0 := by
 obtain ⟨hb, h1, h2, h3⟩ := Xov u h
 have hl := Xav (Xem u).1
 have hlu := Xav u
 rw [← hl, hb]
 obtain ⟨e1, e2⟩ := Ynx (Xal u) [] (by omega)
 refine ⟨e1, Ymd _ _ (fun i hi => by simp at hi), ?_⟩
 rw [e2, hlu, Xnq]
 exact h3
def Yhp : List ByteArray → List Int → ByteArray × Bool
 | [], x => (strOfNums x, true)
 | u :: us, x => if (Xem u).2 = true then (if x.length + 3 + (Xem u).1.size > 60000 then ((⟨#[]⟩ : ByteArray), false) else Yhp us ((x ++ [0, 0, 1]) ++ Xal (Xem u).1)) else ((⟨#[]⟩ : ByteArray), false)
def Xla (l : List ByteArray) : ByteArray × Bool := if l.length > 400 then ((⟨#[]⟩ : ByteArray), false) else Yhp l []
theorem Yja : ∀ (l : List ByteArray) (x : List Int), x.length ≤ 60000 → (Yhp l x).1.size ≤ 60000
 | [], x, h => by simpa [Yhp, strOfNums_size] using h
 | u :: us, x, h => by
  rw [Yhp]
  split
  ·
   split
   ·
    simp [ByteArray.size]
   ·
    rename_i h2
    refine Yja us _ ?_
    rw [List.length_append, Xav, List.length_append]; simp; omega
  ·
   simp [ByteArray.size]
theorem Xyu (l : List ByteArray) : (Xla l).1.size ≤ 60000 := by
 unfold Xla
 split
 ·
  simp [ByteArray.size]
 ·
  exact Yja _ _ (by simp)
def frB : List ByteArray → List Int
 | [] => []
 | u :: us => [0, 0, 1] ++ (Xal (Xem u).1 ++ frB us)
theorem Yjb : ∀ (l : List ByteArray) (x : List Int), (Yhp l x).2 = true → (Yhp l x).1 = strOfNums (x ++ frB l) ∧ ∀ u ∈ l, (Xem u).2 = true
 | [], x, _ => by simp [Yhp, frB]
 | u :: us, x, h => by
  rw [Yhp] at h ⊢
  split at h
  ·
   rename_i h1
   rw [if_pos h1]
   split at h
   ·
    simp at h
   ·
    rename_i h2
    rw [if_neg h2]
    obtain ⟨e1, e2⟩ := Yjb us _ h
    refine ⟨by rw [e1, frB]; simp, ?_⟩
    intro v hv
    rcases List.mem_cons.1 hv with rfl | hv
    ·
     exact h1
    ·
     exact e2 v hv
  ·
   simp at h
theorem Yi7 : ∀ l : List ByteArray, ∀ c ∈ frB l, Yep c
 | [] => by simp [frB]
 | u :: us => by
  intro c hc
  rw [frB, List.mem_append, List.mem_append] at hc
  rcases hc with hc | hc | hc
  ·
   simp at hc; unfold Yep; omega
  ·
   exact Xy7 _ c hc
  ·
   exact Yi7 us c hc
theorem Xnf (l : List ByteArray) (s : ByteArray) (h : Xla l = (s, true)) : Xal s = frB l ∧ (∀ u ∈ l, (Xem u).2 = true) ∧ l.length ≤ 400 ∧ s.size ≤ 60000 := by
 have hz := Xyu l
 rw [h] at hz
 unfold Xla at h
 split at h
 ·
  simp at h
 ·
  obtain ⟨e1, e2⟩ := Yjb l [] (by rw [h])
  rw [h] at e1
  simp only [List.nil_append] at e1
  exact ⟨by rw [e1]; exact Ygz _ (Yi7 l), e2, by omega, hz⟩
def Ygj (L : List Int) : Prop := rd L 0 = 0 ∧ rd L 1 = 0 ∧ rd L 2 = 1
instance (L : List Int) : Decidable (Ygj L) := by unfold Ygj; infer_instance
def Xej (p : Int) : List Int → List Int
 | [] => []
 | c :: r => if Ygj (c :: r) then p :: Xej (p + 1) r else Xej (p + 1) r
theorem Yn4 (L : List Int) (h : Ygj L) : ∃ r, L = 0 :: 0 :: 1 :: r := by
 obtain ⟨h0, h1, h2⟩ := h
 match L, h0, h1, h2 with
 | [], _, _, h2 => simp [rd] at h2
 | [_], _, _, h2 => simp [rd] at h2
 | [_, _], _, _, h2 => simp [rd] at h2
 | a :: b :: c :: r, h0, h1, h2 => simp [rd] at h0 h1 h2; exact ⟨r, by rw [h0, h1, h2]⟩
theorem Yq3 (r : List Int) : Ygj (0 :: 0 :: 1 :: r) := by simp [Ygj, rd]
theorem Yj0 (p : Int) (r : List Int) : Xej p (0 :: 0 :: 1 :: r) = p :: Xej (p + 3) r := by
 rw [Xej, if_pos (Yq3 r), Xej, if_neg (by simp [Ygj, rd]), Xej, if_neg (by simp [Ygj, rd]), show p + 1 + 1 + 1 = p + 3 by omega]
theorem Ykv (p : Int) (L : List Int) (h : L.length ≤ 2) : Xej p L = [] := by
 match L, h with
 | [], _ => rfl
 | [_], _ => rw [Xej, if_neg (by simp [Ygj, rd]), Xej]
 | [_, _], _ => rw [Xej, if_neg (by simp [Ygj, rd]), Xej, if_neg (by simp [Ygj, rd]), Xej]
 | _ :: _ :: _ :: _, h => simp at h
def Xq8 (n : Int) : Int → List Int → Prop
 | p, [] => p ≤ n
 | p, q :: t => p ≤ q ∧ Xq8 n (q + 3) t
theorem Ypp (n : Int) (p q : Int) (h : p ≤ q) : ∀ t, Xq8 n q t → Xq8 n p t
 | [], h1 => Int.le_trans h h1
 | r :: t, h1 => ⟨Int.le_trans h h1.1, h1.2⟩
theorem Yii : ∀ (m : Nat) (L : List Int) (p : Int), L.length ≤ m → Xq8 (p + L.length) p (Xej p L)
 | m, [], p, _ => by simp [Xej, Xq8]
 | 0, c :: r, p, h => by simp at h
 | m + 1, c :: r, p, h => by
  by_cases hh : Ygj (c :: r)
  ·
   obtain ⟨r', e⟩ := Yn4 _ hh
   rw [e, Yj0]
   refine ⟨Int.le_refl _, ?_⟩
   rw [e] at h
   have := Yii m r' (p + 3) (by simp at h; omega)
   rw [show p + ((0 :: 0 :: 1 :: r' : List Int).length : Int) = p + 3 + (r'.length : Int) by simp; omega]
   exact this
  ·
   rw [Xej, if_neg hh]
   have := Yii m r (p + 1) (by simp at h; omega)
   rw [show p + ((c :: r).length : Int) = p + 1 + (r.length : Int) by simp; omega]
   exact Ypp _ _ _ (by omega) _ this
theorem Yha : ∀ (E R : List Int) (p : Int), (∀ i, i < E.length → ¬ Ygj ((E ++ R).drop i)) → Xej p (E ++ R) = Xej (p + E.length) R
 | [], R, p, _ => by simp
 | c :: E, R, p, h => by
  have h0 := h 0 (by simp)
  rw [List.drop_zero, List.cons_append] at h0
  rw [List.cons_append, Xej, if_neg h0, Yha E R (p + 1) (fun i hi => by
   have := h (i + 1) (by simp; omega)
   rwa [List.cons_append, List.drop_succ_cons] at this)]
  rw [show p + 1 + (E.length : Int) = p + ((c :: E).length : Int) by simp; omega]
theorem Xo2 (L : List Int) (i : Nat) (j : Int) (hj : 0 ≤ j) : rd (L.drop i) j = rd L ((i : Int) + j) := by
 simp [rd, List.getD_eq_getElem?_getD, show ((i : Int) + j).toNat = i + j.toNat by omega]
theorem Ylq (u : ByteArray) (h : (Xem u).2 = true) (R : List Int) (i : Nat) (hi : i < (Xal (Xem u).1).length) : ¬ Ygj ((Xal (Xem u).1 ++ R).drop i) := by
 obtain ⟨h1, h2, h3⟩ := Yf9 u h
 have hl := Xav (Xem u).1
 intro hh
 unfold Ygj at hh
 rw [Xo2 _ _ _ (by omega), Xo2 _ _ _ (by omega), Xo2 _ _ _ (by omega)] at hh
 obtain ⟨a0, a1, a2⟩ := hh
 rw [Xnp _ _ _ (by omega)] at a0
 rw [Int.add_zero] at a0
 by_cases e1 : i + 1 = (Xem u).1.size
 ·
  rw [show (i : Int) = ((Xem u).1.size : Int) - 1 by omega] at a0; exact h3 a0
 ·
  rw [Xnp _ _ _ (by omega)] at a1
  by_cases e2 : i + 2 = (Xem u).1.size
  ·
   rw [show (i : Int) + 1 = ((Xem u).1.size : Int) - 1 by omega] at a1; exact h3 a1
  ·
   rw [Xnp _ _ _ (by omega)] at a2
   exact h2 i (by omega) a0 a1 a2
def Ype : Int → List ByteArray → List Int
 | _, [] => []
 | p, u :: us => p :: Ype (p + 3 + ((Xem u).1.size : Int)) us
theorem Yfc : ∀ (l : List ByteArray) (p : Int), (∀ u ∈ l, (Xem u).2 = true) → Xej p (frB l) = Ype p l
 | [], p, _ => rfl
 | u :: us, p, h => by
  rw [frB, Ype]
  show Xej p (0 :: 0 :: 1 :: (Xal (Xem u).1 ++ frB us)) = _
  rw [Yj0, Yha _ _ _ (Ylq u (h u (List.mem_cons_self)) _), Yfc us _ (fun v hv => h v (List.mem_cons_of_mem _ hv)), Xav]
theorem Yq2 (s : ByteArray) (i : Nat) (h : i + 3 ≤ s.size) : (s.extract i (i + 3)).toList = ([0, 0, 1] : List UInt8) ↔ Ygj ((Xal s).drop i) := by
 have hl := Xav s
 have e : (s.extract i (i + 3)).toList = ([0, 0, 1] : List UInt8) ↔ Xal (s.extract i (i + 3)) = [0, 0, 1] := by
  rw [ByteArray.toList_eq]
  constructor
  ·
   intro h; unfold Xal; rw [h]; rfl
  ·
   intro h
   have : s.extract i (i + 3) = strOfNums [0, 0, 1] := by rw [← Xo7 (s.extract i (i + 3)), h]
   rw [this]; rfl
 rw [e, Xb7]
 have h3 : ((Xal s).take (i + 3)).drop i = [rd (Xal s) i, rd (Xal s) ((i + 1 : Nat) : Int), rd (Xal s) ((i + 2 : Nat) : Int)] := by
  rw [show i + 3 = i + 2 + 1 by rfl, Xjq _ _ (by omega), Xjq _ _ (by omega), Xjq _ _ (by omega), List.append_assoc, List.append_assoc, List.drop_append_of_le_length (by rw [List.length_take]; omega), List.drop_eq_nil_of_le (by rw [List.length_take]; omega)]
  rfl
 rw [h3]
 unfold Ygj
 rw [Xo2 _ _ _ (by omega), Xo2 _ _ _ (by omega), Xo2 _ _ _ (by omega), Int.add_zero, show ((i + 1 : Nat) : Int) = (i : Int) + 1 by omega, show ((i + 2 : Nat) : Int) = (i : Int) + 2 by omega]
 simp
noncomputable def uV (s : ByteArray) : List ByteArray × Bool := @dite _ (∃ l, Xla l = (s, true)) (Classical.propDecidable _) (fun h => (Classical.choose h, true)) (fun _ => ([], false))
def Yna (x : List ByteArray) (s : ByteArray) : List ByteArray × Bool := if (Xla x).2 = true then (if (Xla x).1.toList = s.toList then (x, true) else ([], false)) else ([], false)
theorem Ypr (x : List ByteArray) (s : ByteArray) : Yna x s = ([], false) ∨ (Yna x s).2 = true ∧ Xla (Yna x s).1 = (s, true) := by
 unfold Yna
 split
 ·
  rename_i h
  split
  ·
   rename_i h2
   exact Or.inr ⟨rfl, Prod.ext (Yei.1 h2) h⟩
  ·
   exact Or.inl rfl
 ·
  exact Or.inl rfl
theorem Ylm (x : List ByteArray) (s : ByteArray) (h : Xla x = (s, true)) : Yna x s = (x, true) := by
 unfold Yna
 rw [h]; simp
theorem Yqm (s : ByteArray) : (∃ l, Xla l = (s, true) ∧ uV s = (l, true)) ∨ (¬ (∃ l, Xla l = (s, true)) ∧ uV s = ([], false)) := by
 by_cases h : ∃ l, Xla l = (s, true)
 ·
  exact Or.inl ⟨Classical.choose h, Classical.choose_spec h, by unfold uV; rw [dif_pos h]⟩
 ·
  exact Or.inr ⟨h, by unfold uV; rw [dif_neg h]⟩
theorem Yqn (s : ByteArray) (h : 1 ≤ s.size) (h2 : (uV s).2 = true) : (uV s).1 ≠ [] := by
 rcases Yqm s with ⟨l, h1, e⟩ | ⟨_, e⟩
 ·
  rw [e]
  intro hl
  simp only [] at hl
  rw [hl] at h1
  have := congrArg (fun p => p.1.size) h1
  simp [Xla, Yhp, strOfNums_size] at this
  omega
 ·
  rw [e] at h2; simp at h2
theorem Yoz (a : ByteArray) (hs : a.size ≤ 60000) : (unV a).1.size ≤ 60000 := by
 unfold unV
 have := Xuz (Xal a) []
 rw [Xav] at this
 split
 ·
  rw [strOfNums_size]; omega
 ·
  simp [ByteArray.size]
theorem Yli (s : ByteArray) (u : ByteArray) (R : List Int) (p : Nat) (h : (Xal s).drop p = [0, 0, 1] ++ (Xal (Xem u).1 ++ R)) : s.extract (p + 3) (p + 3 + (Xem u).1.size) = (Xem u).1 ∧ (Xal s).drop (p + 3 + (Xem u).1.size) = R ∧ p + 3 + (Xem u).1.size + R.length = s.size := by
 have h3 : (Xal s).drop (p + 3) = Xal (Xem u).1 ++ R := by rw [← List.drop_drop, h]; rfl
 have hl := Xav (Xem u).1
 refine ⟨?_, ?_, ?_⟩
 ·
  apply Xl6
  rw [Xb7, List.drop_take, h3, show p + 3 + (Xem u).1.size - (p + 3) = (Xal (Xem u).1).length by omega, List.take_left']
  rfl
 ·
  rw [← List.drop_drop, h3, ← hl, List.drop_left']
  rfl
 ·
  have e := congrArg List.length h
  rw [List.length_drop, Xav] at e
  simp only [List.length_append, List.length_cons, List.length_nil, hl] at e
  omega
theorem Yln (a : ByteArray) (x : List Int) (i : Nat) (h : i < a.size) : Yd3 x ((Xal a).drop i) = Yd3 (Xb3 x (Xei a i)) ((Xal a).drop (i + 1)) := by
 rw [Xli _ i (by rw [Xav]; exact h), Xne, Xnq]
theorem Ylp (a : ByteArray) (x : List Int) : Yd3 x ((Xal a).drop a.size) = x := by
 rw [List.drop_eq_nil_of_le (by rw [Xav]; omega), Yeu]
theorem Xyr (x : List Int) (b : Int) : (Xb3 x b).length ≤ x.length + 2 := by unfold Xb3; split <;> simp
theorem Xsq (a : ByteArray) (h : a.size ≤ 60000) : Xe6 a = some (strOfNums (Yd3 [] (Xal a))) := by
 have hm : maxLen = 9223372036854775807 := rfl
 unfold Xe6
 have key : ∀ i : Nat, i ≤ a.size → ∀ x : List Int, x.length ≤ 2 * i → loop (Xcs a) ((i : Int), x) = some (Yd3 x ((Xal a).drop i)) := by
  refine Xgv _ ?_ ?_
  ·
   intro x _
   rw [Ylp]
   exact Xgx (by unfold Xcs; rw [Xax (by simp)])
  ·
   intro i hi ih x hx
   rw [Yln a x i hi]
   have hl := Xyr x (Xei a i)
   refine lgo (y := (((i + 1 : Nat) : Int), Xb3 x (Xei a i))) ?_ (ih _ (by omega))
   have ht := Yph x
   have hc : (sel (decide ((x.length : Int) ≥ 2)) (
     req (0 ≤ (Xaa .i64 ((x.length : Int) - 1)) ∧ (Xaa .i64 ((x.length : Int) - 1)) < x.length) <|
     req ((Xaa .i64 ((x.length : Int) - 1)).toNat < x.length) <|
     sel ((x.getD ((Xaa .i64 ((x.length : Int) - 1)).toNat) 0) == 0) (
     req (0 ≤ (Xaa .i64 ((x.length : Int) - 2)) ∧ (Xaa .i64 ((x.length : Int) - 2)) < x.length) <|
     req ((Xaa .i64 ((x.length : Int) - 2)).toNat < x.length) <|
     sel ((x.getD ((Xaa .i64 ((x.length : Int) - 2)).toNat) 0) == 0) (
     req (0 ≤ (i : Int) ∧ (i : Int) < a.size) <|
     some (decide ((Xei a i) < 4))) (
     some false)) (
     some false)) (
     some false)) = some (decide (Xei a i < 4 ∧ 2 ≤ tz x)) := by
    rw [wkA (e := (x.length : Int) - 1), wkA (e := (x.length : Int) - 2)]
    by_cases h2 : (x.length : Int) ≥ 2
    ·
     rw [Xa6 h2, rqA, rqA, rqA, rqA, rqA, Yju, Yju]
     by_cases h3 : rd x ((x.length : Int) - 1) = 0
     ·
      rw [Xbi (by simpa using h3)]
      by_cases h4 : rd x ((x.length : Int) - 2) = 0
      ·
       rw [Xbi (by simpa using h4)]
       have : 2 ≤ tz x := ht.2 ⟨by omega, h3, h4⟩
       congr 1; rw [decide_eq_decide]; omega
      ·
       rw [Xbb (by simpa using h4), decide_eq_false (fun h => h4 (ht.1 h.2).2.2)]
     ·
      rw [Xbb (by simpa using h3), decide_eq_false (fun h => h3 (ht.1 h.2).2.1)]
    ·
     rw [Xax h2, decide_eq_false (fun h => by have := (ht.1 h.2).1; omega)]
   unfold Xcs
   simp only
   rw [syA, hc, Xad]
   unfold Xb3
   by_cases hp : Xei a i < 4 ∧ 2 ≤ tz x
   ·
    rw [Xa6 hp, if_pos hp, Xa3 (by simp only [List.length_singleton]; omega), Xad, rqA, Xa3 (by simp only [List.length_append, List.length_singleton]; omega), wkA]
    rfl
   ·
    rw [Xax hp, if_neg hp, Xad, rqA, Xa3 (by simp only [List.length_singleton]; omega), wkA]
    rfl
 exact (Xel (key 0 (by omega) [] (by simp))).trans rfl
theorem Xzw (a : ByteArray) (hs : a.size ≤ 9223372036854775807) : Xjf a = some (Xem a) := by
 unfold Xjf Xem
 by_cases h : (a.size : Int) = 0
 ·
  rw [Xbi (by simpa using h), Xad, Xa8, if_neg (by omega)]
 ·
  rw [Xbb (by simpa using h)]
  by_cases h1 : (a.size : Int) > 60000
  ·
   rw [Xa6 h1, Xad, Xa8, if_neg (by omega)]
  ·
   rw [Xax h1, wkA, rqA, Xad, Xsq a (by omega), Xad]
   by_cases h2 : Xei a ((a.size : Int) - 1) = 0
   ·
    rw [Xbi (by simpa using h2), if_neg (fun hh => hh.2.2 h2)]
   ·
    rw [Xbb (by simpa using h2), if_pos ⟨by omega, by omega, h2⟩]
theorem Xtb (a : ByteArray) (h : a.size ≤ 60000) : loop (Xc2 a) (0, 0, []) = some (Yd3 [] (Xal a)) := by
 have hm : maxLen = 9223372036854775807 := rfl
 have key : ∀ i : Nat, i ≤ a.size → ∀ x : List Int, x.length ≤ 2 * i → loop (Xc2 a) ((tz x : Int), (i : Int), x) = some (Yd3 x ((Xal a).drop i)) := by
  refine Xgv _ ?_ ?_
  ·
   intro x _
   rw [Ylp]
   exact Xgx (by unfold Xc2; rw [Xax (by simp)])
  ·
   intro i hi ih x hx
   rw [Yln a x i hi]
   have hl := Xyr x (Xei a i)
   refine lgo (y := ((tz (Xb3 x (Xei a i)) : Int), ((i + 1 : Nat) : Int), Xb3 x (Xei a i))) ?_ (ih _ (by omega))
   have hz := Yqk x
   have hc : (req (0 ≤ (i : Int) ∧ (i : Int) < a.size) <| sel (decide ((Xei a i) < 4)) (some (decide ((tz x : Int) ≥ 2))) (some false)) = some (decide (Xei a i < 4 ∧ 2 ≤ tz x)) := by
    rw [rqA, Xcy]
    congr 1
    rw [Bool.eq_iff_iff]
    simp only [Bool.and_eq_true, decide_eq_true_eq]
    omega
   have Xvi : ∀ (y : List Int) (z : Int), z = (tz y : Int) → z ≤ 200000 → sel (Xei a i == 0) (some (Xaa .i64 (z + 1), y ++ [Xei a i])) (some (0, y ++ [Xei a i])) = some ((tz (y ++ [Xei a i]) : Int), y ++ [Xei a i]) := by
    intro y z hz hz2
    by_cases h0 : Xei a i = 0
    ·
     rw [Xbi (by simpa using h0), h0, Ybu, hz, wkA]; rfl
    ·
     rw [Xbb (by simpa using h0), Yir _ _ h0]; rfl
   unfold Xc2
   simp only
   rw [syA, hc, Xad]
   unfold Xb3
   by_cases hp : Xei a i < 4 ∧ 2 ≤ tz x
   ·
    rw [Xa6 hp, if_pos hp, Xa3 (by simp only [List.length_singleton]; omega), Xad, rqA, Xa3 (by simp only [List.length_append, List.length_singleton]; omega), rqA]
    simp only
    rw [Xvi (x ++ [3]) 0 (by rw [Yir _ _ (by decide)]; rfl) (by omega), Xad, wkA (e := (i : Int) + 1)]
    rfl
   ·
    rw [Xax hp, if_neg hp, Xad, rqA, Xa3 (by simp only [List.length_singleton]; omega), rqA]
    simp only
    rw [Xvi x _ rfl (by omega), Xad, wkA (e := (i : Int) + 1)]
    rfl
 exact key 0 (by omega) [] (by simp)
theorem Xnh (a : ByteArray) (hs : a.size ≤ 9223372036854775807) : Xg5 a = some (Xem a) := by
 unfold Xg5 Xem
 rw [Yhc]
 by_cases h : a.size = 0
 ·
  rw [Xa6 h, Xad, Xa8, if_neg (by omega)]
 ·
  rw [Xax h]
  by_cases h1 : (a.size : Int) > 60000
  ·
   rw [Xa6 h1, Xad, Xa8, if_neg (by omega)]
  ·
   rw [Xax h1, wkA (e := (a.size : Int) - 1), rqA, Xad]
   by_cases h2 : Xei a ((a.size : Int) - 1) = 0
   ·
    rw [Xbi (by simpa using h2), if_neg (fun hh => hh.2.2 h2)]
   ·
    rw [Xbb (by simpa using h2), if_pos ⟨by omega, by omega, h2⟩, rqA, Xb0 (by omega), wkA (e := (a.size : Int) / 2), wkA (e := (a.size : Int) + (a.size : Int) / 2), rqA]
    exact (Xel (Xtb a (by omega))).trans rfl
theorem Yi3 (l : List ByteArray) (i : Nat) (h : i < l.length) : l.getD i Xou = l[i] := Xhm l i h _
theorem Ych (l : List ByteArray) (hs : ∀ u ∈ l, u.size ≤ 9223372036854775807) : Xkl l = some (Xla l) := by
 have hm : maxLen = 9223372036854775807 := rfl
 unfold Xkl Xla
 by_cases h : (l.length : Int) > 400
 ·
  rw [Xa6 h, if_pos (by omega)]
 ·
  rw [Xax h, if_neg (by omega)]
  have key : ∀ i : Nat, i ≤ l.length → ∀ x : List Int, x.length ≤ 60000 → ∃ o, loop (Xea l) ((i : Int), x) = some o ∧ (match o with | .out v => some ((strOfNums v), true) | .ret r => some r) = some (Yhp (l.drop i) x) := by
   refine Xgv _ ?_ ?_
   ·
    intro x _
    rw [List.drop_eq_nil_of_le (Nat.le_refl _), Yhp]
    exact ⟨_, Xgx (by unfold Xea; rw [Xax (by simp)]), rfl⟩
   ·
    intro i hi ih x hx
    have hz := Yga l[i]
    have hn := Xav (Xem l[i]).1
    rw [List.drop_eq_getElem_cons hi, Yhp]
    have st : Xea l ((i : Int), x) = if (Xem l[i]).2 = true then (if x.length + 3 + (Xem l[i]).1.size > 60000 then some (.done (.ret ((⟨#[]⟩ : ByteArray), false))) else some (.go (((i + 1 : Nat) : Int), (x ++ [0, 0, 1]) ++ Xal (Xem l[i]).1))) else some (.done (.ret ((⟨#[]⟩ : ByteArray), false))) := by
     unfold Xea
     simp only [Int.toNat_natCast]
     rw [syA, rqA, Yi3 l i hi, Xzw _ (hs _ (List.getElem_mem hi)), Xad]
     cases h1 : (Xem l[i]).2 with
     | false => rw [if_neg (by simp)]; rfl
     | true =>
      rw [if_pos rfl, Bool.not_true, Xa7, Xa3 (by simp only [List.length_cons, List.length_nil]; omega), Xa3 (by simp only [List.length_append, List.length_cons, List.length_nil]; omega), wkA]
      by_cases h2 : x.length + 3 + (Xem l[i]).1.size > 60000
      ·
       rw [if_pos h2, Xa6 (by simp only [List.length_append, List.length_cons, List.length_nil]; omega)]
      ·
       rw [if_neg h2, Xax (by simp only [List.length_append, List.length_cons, List.length_nil]; omega)]
       rfl
    by_cases h1 : (Xem l[i]).2 = true
    ·
     rw [if_pos h1] at st ⊢
     by_cases h2 : x.length + 3 + (Xem l[i]).1.size > 60000
     ·
      rw [if_pos h2] at st ⊢
      exact ⟨_, Xgx st, rfl⟩
     ·
      rw [if_neg h2] at st ⊢
      obtain ⟨o, ho, ho2⟩ := ih ((x ++ [0, 0, 1]) ++ Xal (Xem l[i]).1) (by rw [List.length_append, List.length_append, hn, List.length_cons, List.length_cons, List.length_cons, List.length_nil]; omega)
      exact ⟨o, lgo st ho, ho2⟩
    ·
     rw [if_neg h1] at st ⊢
     exact ⟨_, Xgx st, rfl⟩
  obtain ⟨o, ho, ho2⟩ := key 0 (by omega) [] (by simp)
  refine (Xel ho).trans ?_
  cases o <;> exact ho2
theorem Xpj (l : List ByteArray) (hs : ∀ u ∈ l, u.size ≤ 9223372036854775807) : Xgw l = some (Xla l) := by
 have hm : maxLen = 9223372036854775807 := rfl
 unfold Xgw Xla
 by_cases h : (l.length : Int) > 400
 ·
  rw [Xa6 h, if_pos (by omega)]
 ·
  rw [Xax h, if_neg (by omega)]
  have key : ∀ i : Nat, i ≤ l.length → ∀ x : List Int, x.length ≤ 60000 → ∃ o, loop (Xd8 l) ((i : Int), x) = some o ∧ (match o with | .out v => some ((strOfNums v), true) | .ret r => some r) = some (Yhp (l.drop i) x) := by
   refine Xgv _ ?_ ?_
   ·
    intro x _
    rw [List.drop_eq_nil_of_le (Nat.le_refl _), Yhp]
    exact ⟨_, Xgx (by unfold Xd8; rw [Xax (by simp)]), rfl⟩
   ·
    intro i hi ih x hx
    have hz := Yga l[i]
    have hn := Xav (Xem l[i]).1
    rw [List.drop_eq_getElem_cons hi, Yhp]
    have st : Xd8 l ((i : Int), x) = if (Xem l[i]).2 = true then (if x.length + 3 + (Xem l[i]).1.size > 60000 then some (.done (.ret ((⟨#[]⟩ : ByteArray), false))) else some (.go (((i + 1 : Nat) : Int), (x ++ [0, 0, 1]) ++ Xal (Xem l[i]).1))) else some (.done (.ret ((⟨#[]⟩ : ByteArray), false))) := by
     unfold Xd8
     simp only [Int.toNat_natCast]
     rw [syA, rqA, Yi3 l i hi, Xnh _ (hs _ (List.getElem_mem hi)), Xad]
     cases h1 : (Xem l[i]).2 with
     | false => rw [if_neg (by simp)]; rfl
     | true =>
      rw [if_pos rfl, Xa8, Xad, wkA (e := (x.length : Int) + 3), wkA (e := (x.length : Int) + 3 + _)]
      by_cases h2 : x.length + 3 + (Xem l[i]).1.size > 60000
      ·
       rw [if_pos h2, syA]
      ·
       rw [if_neg h2, snA, Xa3 (by simp only [List.length_cons, List.length_nil]; omega), Xa3 (by simp only [List.length_append, List.length_cons, List.length_nil]; omega), wkA]
       rfl
    by_cases h1 : (Xem l[i]).2 = true
    ·
     rw [if_pos h1] at st ⊢
     by_cases h2 : x.length + 3 + (Xem l[i]).1.size > 60000
     ·
      rw [if_pos h2] at st ⊢
      exact ⟨_, Xgx st, rfl⟩
     ·
      rw [if_neg h2] at st ⊢
      obtain ⟨o, ho, ho2⟩ := ih ((x ++ [0, 0, 1]) ++ Xal (Xem l[i]).1) (by rw [List.length_append, List.length_append, hn, List.length_cons, List.length_cons, List.length_cons, List.length_nil]; omega)
      exact ⟨o, lgo st ho, ho2⟩
    ·
     rw [if_neg h1] at st ⊢
     exact ⟨_, Xgx st, rfl⟩
  obtain ⟨o, ho, ho2⟩ := key 0 (by omega) [] (by simp)
  refine (Xel ho).trans ?_
  cases o <;> exact ho2
theorem Yro (a : ByteArray) : (bnd (sel (Xem (strOfNums (unL [] (Xal a)))).2 (some (!((Xem (strOfNums (unL [] (Xal a)))).1.toList == a.toList))) (some true)) fun v13 => sel v13 (some ((⟨#[]⟩ : ByteArray), false)) (some ((strOfNums (unL [] (Xal a))), true))) = some (unV a) := by
 unfold unV
 by_cases h1 : (Xem (strOfNums (unL [] (Xal a)))).2 = true
 ·
  rw [h1, Xa8, Xad, Yij]
  by_cases h2 : (Xem (strOfNums (unL [] (Xal a)))).1 = a
  ·
   rw [if_pos (Prod.ext h2 h1), h2, Xbi (by simp)]
  ·
   rw [if_neg (fun h => h2 (by rw [h])), Xbb (by rw [beq_eq_false_iff_ne]; exact fun h => h2 (Yei.1 h))]
 ·
  rw [Xbb (by simpa using h1), Xad, Xa8, if_neg (fun h => h1 (by rw [h]))]
theorem Xth (a : ByteArray) (hs : a.size ≤ 60000) : Xfv a = some (unV a) := by
 have hm : maxLen = 9223372036854775807 := rfl
 unfold Xfv
 rw [rqA]
 have hl := Xav a
 have key : ∀ i : Nat, i ≤ a.size → ∀ o : List Int, o.length ≤ i → loop (Xcb a) ((tz ((Xal a).take i) : Int), (i : Int), o) = some (o ++ unL ((Xal a).take i) ((Xal a).drop i)) := by
  refine Xgv _ ?_ ?_
  ·
   intro o ho
   rw [List.drop_eq_nil_of_le (by omega), unL, List.append_nil]
   exact Xgx (by unfold Xcb; rw [Xax (by simp)])
  ·
   intro i hi ih o ho
   rw [Yoy a i hi]
   have htl : ((Xal a).take i).length = i := by rw [List.length_take]; omega
   have hz := Yqk ((Xal a).take i)
   have hz1 : tz ((Xal a).take (i + 1)) = if Xei a i = 0 then tz ((Xal a).take i) + 1 else 0 := by
    rw [Xjq _ _ (by omega), Xnq]
    split
    ·
     rename_i h0; rw [h0, Ybu]
    ·
     rename_i h0; rw [Yir _ _ h0]
   have hc : (sel (decide ((tz ((Xal a).take i) : Int) ≥ 2)) (
     req (0 ≤ (i : Int) ∧ (i : Int) < a.size) <|
     some ((Xei a i) == 3)) (
     some false)) = some (decide (Xei a i = 3 ∧ 2 ≤ tz ((Xal a).take i))) := by
    rw [rqA, Xcy]
    congr 1
    rw [Bool.eq_iff_iff]
    simp only [Bool.and_eq_true, decide_eq_true_eq, beq_iff_eq]
    omega
   by_cases hp : Xei a i = 3 ∧ 2 ≤ tz ((Xal a).take i)
   ·
    rw [if_pos hp, List.nil_append]
    refine lgo (y := ((tz ((Xal a).take (i + 1)) : Int), ((i + 1 : Nat) : Int), o)) ?_ (ih o (by omega))
    rw [hz1, if_neg (by omega)]
    unfold Xcb Yh4
    simp only
    rw [syA, hc, Xad, Xa6 hp, Xad, wkA]
    rfl
   ·
    rw [if_neg hp, ← List.append_assoc]
    refine lgo (y := ((tz ((Xal a).take (i + 1)) : Int), ((i + 1 : Nat) : Int), o ++ [Xei a i])) ?_ (ih _ (by simp; omega))
    rw [hz1]
    unfold Xcb Yh4
    simp only
    rw [syA, hc, Xad, Xax hp, rqA]
    by_cases h0 : Xei a i = 0
    ·
     rw [Xbi (by simpa using h0), if_pos h0, rqA, Xa3 (by simp only [List.length_singleton]; omega), Xad, wkA (e := (i : Int) + 1), wkA]
     rfl
    ·
     rw [Xbb (by simpa using h0), if_neg h0, rqA, Xa3 (by simp only [List.length_singleton]; omega), Xad, wkA (e := (i : Int) + 1)]
     rfl
 refine (Xel (key 0 (by omega) [] (by simp))).trans ?_
 rw [List.take_zero, List.drop_zero, List.nil_append]
 have hb := Xuz (Xal a) []
 rw [Xnh _ (by rw [strOfNums_size]; omega), Xad]
 exact Yro a
theorem Yr8 {g : Option (List ByteArray × Bool)} (s : ByteArray) (hA : ∀ l, Xla l = (s, true) → g = some (l, true)) (hB : ∃ r, g = some r ∧ (r = ([], false) ∨ r.2 = true ∧ Xla r.1 = (s, true))) : g = some (uV s) := by
 rcases Yqm s with ⟨l, h1, e⟩ | ⟨hn, e⟩
 ·
  rw [e]; exact hA l h1
 ·
  rw [e]
  obtain ⟨r, hr, h | h⟩ := hB
  ·
   rw [← h]; exact hr
  ·
   exact absurd ⟨r.1, h.2⟩ hn
theorem Yb5 (s : ByteArray) (hs : s.size ≤ 60000) : Xkh s = some (Xej 0 (Xal s)) := by
 have hm : maxLen = 9223372036854775807 := rfl
 unfold Xkh
 have hl := Xav s
 have key : ∀ i : Nat, i ≤ s.size → ∀ x : List Int, x.length ≤ i → loop (Xcv s) ((i : Int), x) = some (x ++ Xej i ((Xal s).drop i)) := by
  refine Xgv _ ?_ ?_
  ·
   intro x _
   rw [List.drop_eq_nil_of_le (by omega), Xej, List.append_nil]
   exact Xgx (by unfold Xcv; simp only; rw [wkA, snA])
  ·
   intro i hi ih x hx
   by_cases h3 : i + 3 ≤ s.size
   ·
    have e3 : Xaa .i64 ((i : Int) + 3) = ((i + 3 : Nat) : Int) := by rw [wkA]; omega
    have hh := Yq2 s i h3
    have st : ∀ b : Bool, ((s.extract i (i + 3)).toList == (⟨#[0, 0, 1]⟩ : ByteArray).toList) = b → Xcv s ((i : Int), x) = some (.go (((i + 1 : Nat) : Int), if b = true then x ++ [(i : Int)] else x)) := by
     intro b hb
     unfold Xcv
     simp only
     rw [e3, syA, rqA, Int.toNat_natCast, Int.toNat_natCast, hb, wkA]
     cases b with
     | true => rw [Xa8, Xa3 (by simp only [List.length_singleton]; omega), Xad]; rfl
     | false => rw [Xa7, Xad]; rfl
    rw [Xli _ _ (by omega)] at hh ⊢
    rw [Xej]
    by_cases h : (s.extract i (i + 3)).toList = ([0, 0, 1] : List UInt8)
    ·
     rw [if_pos (hh.1 h)]
     have := ih (x ++ [(i : Int)]) (by simp; omega)
     rw [List.append_assoc] at this
     exact lgo (st true (by rw [h, ByteArray.toList_eq]; rfl)) this
    ·
     rw [if_neg (fun h' => h (hh.2 h'))]
     exact lgo (st false (by rw [beq_eq_false_iff_ne, ByteArray.toList_eq (⟨#[0, 0, 1]⟩ : ByteArray)]; exact h)) (ih x (by omega))
   ·
    rw [Ykv _ _ (by rw [List.length_drop]; omega), List.append_nil]
    exact Xgx (by unfold Xcv; simp only; rw [wkA, snA])
 exact (Xel (key 0 (by omega) [] (by simp))).trans rfl
noncomputable def Yq0 (s : ByteArray) (o : Ou (List ByteArray) (List ByteArray × Bool)) : Option (List ByteArray × Bool) := match o with
 | .out v7 => (
  bnd (Xgw v7) fun q10 =>
  bnd (
  sel q10.2 (
  some (!(q10.1.toList == s.toList))) (
  some true)) fun v11 =>
  sel v11 (
  some (([] : List ByteArray), false)) (
  some (v7, true)))
 | .ret r => some r
theorem Ynu (v : List ByteArray) (s : ByteArray) : (bnd (sel (Xla v).2 (some (!((Xla v).1.toList == s.toList))) (some true)) fun v11 => sel v11 (some (([] : List ByteArray), false)) (some (v, true))) = some (Yna v s) := by
 unfold Yna
 by_cases h1 : (Xla v).2 = true
 ·
  rw [if_pos h1, h1, Xa8, Xad, Yij]
  by_cases h2 : (Xla v).1.toList = s.toList
  ·
   rw [if_pos h2, Xbi (by simpa using h2)]
  ·
   rw [if_neg h2, Xbb (by simpa using h2)]
 ·
  rw [if_neg h1, Xbb (by simpa using h1), Xad, Xa8]
theorem Yi5 (s : ByteArray) (v : List ByteArray) (hv : ∀ u ∈ v, u.size ≤ 60000) : Yq0 s (.out v) = some (Yna v s) := by
 unfold Yq0
 simp only
 rw [Xpj v (fun u hu => by have := hv u hu; omega), Xad]
 exact Ynu v s
def Ynd (s : ByteArray) (q1 : List Int) (v : Int × List ByteArray) (r : List ByteArray × Bool) : Prop := ∃ o, loop (Xbg s q1) v = some o ∧ Yq0 s o = some r
theorem Ymk {s : ByteArray} {q1 : List Int} {v v' : Int × List ByteArray} {r : List ByteArray × Bool} (h : Xbg s q1 v = some (.go v')) (k : Ynd s q1 v' r) : Ynd s q1 v r := by
 obtain ⟨o, h1, h2⟩ := k
 exact ⟨o, lgo h h1, h2⟩
theorem Xzb {s : ByteArray} {q1 : List Int} {v : Int × List ByteArray} {r : List ByteArray × Bool} {o : Ou (List ByteArray) (List ByteArray × Bool)} (h : Xbg s q1 v = some (.done o)) (k : Yq0 s o = some r) : Ynd s q1 v r := ⟨o, Xgx h, k⟩
theorem Ym1 (s : ByteArray) (q1 P : List Int) (hP : q1 ++ [(s.size : Int)] = P) (i : Nat) (x : List ByteArray) (hi : P.length ≤ i + 1) (hi2 : i ≤ 100000) : Xbg s q1 ((i : Int), x) = some (.done (.out x)) := by
 unfold Xbg
 simp only [hP]
 rw [wkA (e := (i : Int) + 1), snA]
theorem Ypi (s : ByteArray) (hs : s.size ≤ 60000) (q1 P : List Int) (hP : q1 ++ [(s.size : Int)] = P) (i : Nat) (x : List ByteArray) (hi : i + 1 < P.length) (hi2 : i ≤ 100000) (hx : x.length ≤ 100000) (a b : Int) (ha : rd P i = a) (hb : rd P ((i + 1 : Nat) : Int) = b) (a0 : 0 ≤ a) (ab : a + 3 ≤ b) (bs : b ≤ s.size) :
  Xbg s q1 ((i : Int), x) = if (unV (s.extract (a + 3).toNat b.toNat)).2 = true then some (.go (((i + 1 : Nat) : Int), x ++ [(unV (s.extract (a + 3).toNat b.toNat)).1])) else some (.done (.ret ([], false))) := by
 have hm : maxLen = 9223372036854775807 := rfl
 have eX : (s.extract (a + 3).toNat b.toNat).size ≤ 60000 := by rw [ByteArray.size_extract]; omega
 unfold Xbg
 simp only [hP]
 rw [wkA (e := (i : Int) + 1), show (i : Int) + 1 = ((i + 1 : Nat) : Int) by omega, syA, rqA, rqA, rqA, rqA, Yju, Yju, ha, hb, wkA (e := a + 3), rqA, Xth _ eX, Xad]
 cases h : (unV (s.extract (a + 3).toNat b.toNat)).2 with
 | true => rw [if_pos rfl, Bool.not_true, Xa7, Xa3 (by simp only [List.length_singleton]; omega)]
 | false => rw [if_neg (by simp)]; rfl
theorem Xti (s : ByteArray) (hs : s.size ≤ 60000) (q1 P : List Int) (eP : q1 ++ [(s.size : Int)] = P) (hP : P.length ≤ 60001) : ∀ i, i ≤ P.length → 1 ≤ P.length → (∀ t p, P.drop i = t → 0 ≤ p → (∃ q, t = q ++ [(s.size : Int)] ∧ Xq8 s.size p q) ∨ t = [] → ∀ x : List ByteArray, x.length ≤ i → (∀ u ∈ x, u.size ≤ 60000) → ∃ r, Ynd s q1 ((i : Int), x) r ∧ (r = ([], false) ∨ r.2 = true ∧ Xla r.1 = (s, true))) := by
 have fin : ∀ (i : Nat) (x : List ByteArray), i ≤ P.length → P.length ≤ i + 1 → (∀ u ∈ x, u.size ≤ 60000) → ∃ r, Ynd s q1 ((i : Int), x) r ∧ (r = ([], false) ∨ r.2 = true ∧ Xla r.1 = (s, true)) := by
  intro i x hi hi2 hx
  exact ⟨Yna x s, Xzb (Ym1 s q1 P eP i x hi2 (by omega)) (Yi5 s x hx), Ypr x s⟩
 refine Xgv _ ?_ ?_
 ·
  intro _ t p ht hp hc x hx hxs
  exact fin _ x (Nat.le_refl _) (by omega) hxs
 ·
  intro i hi ih h1 t p ht hp hc x hx hxs
  rw [Xli P i hi] at ht
  by_cases h2 : i + 1 < P.length
  ·
   rw [Xli P (i + 1) h2] at ht
   obtain ⟨q, hq, hch⟩ : ∃ q, t = q ++ [(s.size : Int)] ∧ Xq8 s.size p q := by
    rcases hc with hc | hc
    ·
     exact hc
    ·
     rw [hc] at ht; simp at ht
   match q, hq, hch with
   | [], hq, _ => rw [hq] at ht; simp at ht
   | a :: q', hq, hch =>
    obtain ⟨hpa, hch'⟩ := hch
    rw [hq, List.cons_append, List.cons.injEq] at ht
    obtain ⟨e1, e2⟩ := ht
    have hb : a + 3 ≤ rd P ((i + 1 : Nat) : Int) ∧ rd P ((i + 1 : Nat) : Int) ≤ s.size := by
     match q', e2, hch' with
     | [], e2, hch' => rw [List.nil_append, List.cons.injEq] at e2; simp [Xq8] at hch'; omega
     | b :: q'', e2, hch' =>
      rw [List.cons_append, List.cons.injEq] at e2
      have hbn : ∀ (t : List Int) (p : Int), Xq8 (s.size : Int) p t → p ≤ s.size := by
       intro t
       induction t with
       | nil => intro p h; exact h
       | cons c t iht => intro p h; have := iht _ h.2; have := h.1; omega
      have := hbn _ _ hch'.2
      have := hch'.1
      omega
    have eX : (s.extract (a + 3).toNat (rd P ((i + 1 : Nat) : Int)).toNat).size ≤ 60000 := by rw [ByteArray.size_extract]; omega
    have hih := fun x' hx' hxs' => ih h1 (q' ++ [(s.size : Int)]) (a + 3) (by rw [← e2, Xli P (i + 1) h2]) (by omega) (Or.inl ⟨q', rfl, hch'⟩) x' hx' hxs'
    have st := Ypi s hs q1 P eP i x h2 (by omega) (by omega) a _ e1 rfl (by omega) hb.1 hb.2
    by_cases ho : (unV (s.extract (a + 3).toNat (rd P ((i + 1 : Nat) : Int)).toNat)).2 = true
    ·
     rw [if_pos ho] at st
     obtain ⟨r, hr, hr2⟩ := hih (x ++ [(unV (s.extract (a + 3).toNat (rd P ((i + 1 : Nat) : Int)).toNat)).1]) (by simp; omega) (by
      intro u hu
      rw [List.mem_append] at hu
      rcases hu with hu | hu
      ·
       exact hxs u hu
      ·
       rw [List.mem_singleton] at hu; rw [hu]; exact Yoz _ eX)
     exact ⟨r, Ymk st hr, hr2⟩
    ·
     rw [if_neg ho] at st
     exact ⟨([], false), Xzb st rfl, Or.inl rfl⟩
  ·
   exact fin i x (by omega) (by omega) hxs
theorem Xnk (s : ByteArray) (hs : s.size ≤ 60000) (q1 P : List Int) (eP : q1 ++ [(s.size : Int)] = P) (hP : P.length ≤ 60001) (l : List ByteArray) (hf : Xla l = (s, true)) :
  ∀ (us : List ByteArray) (p i : Nat) (x : List ByteArray), (∀ u ∈ us, (Xem u).2 = true) → P.drop i = Ype p us ++ [(s.size : Int)] → (Xal s).drop p = frB us → x ++ us = l → Ynd s q1 ((i : Int), x) (l, true) := by
 obtain ⟨_, he, hl4, _⟩ := Xnf l s hf
 intro us
 induction us with
 | nil =>
  intro p i x _ hd _ hx
  rw [List.append_nil] at hx
  rw [hx]
  have hi : i + 1 = P.length := by have := congrArg List.length hd; simp [Ype] at this; omega
  refine Xzb (Ym1 s q1 P eP i l (by omega) (by omega)) ?_
  rw [Yi5 s l (fun u hu => (Xov u (he u hu)).2.2.1), Ylm l s hf]
 | cons u us ih =>
  intro p i x hu hd hb hx
  have hu0 := hu u (List.mem_cons_self)
  rw [frB] at hb
  obtain ⟨c1, c2, c3⟩ := Yli s u _ p hb
  have hE := (Yf9 u hu0).1
  rw [Ype, List.cons_append] at hd
  have hi : i < P.length := by
   rcases Nat.lt_or_ge i P.length with h | h
   ·
    exact h
   ·
    rw [List.drop_eq_nil_of_le h] at hd; simp at hd
  rw [Xli P i hi, List.cons.injEq] at hd
  obtain ⟨hd1, hd2⟩ := hd
  have hi2 : i + 1 < P.length := by
   rcases Nat.lt_or_ge (i + 1) P.length with h | h
   ·
    exact h
   ·
    rw [List.drop_eq_nil_of_le h] at hd2; simp at hd2
  have hq : rd P ((i + 1 : Nat) : Int) = (p : Int) + 3 + ((Xem u).1.size : Int) := by
   have hd3 := hd2
   rw [Xli P (i + 1) hi2] at hd3
   cases us with
   | nil =>
    rw [Ype, List.nil_append, List.cons.injEq] at hd3
    simp [frB] at c3
    omega
   | cons v vs =>
    rw [Ype, List.cons_append, List.cons.injEq] at hd3
    exact hd3.1
  have hxl : x.length ≤ 400 := by rw [← hx, List.length_append] at hl4; omega
  have st := Ypi s hs q1 P eP i x hi2 (by omega) (by omega) p _ hd1 hq (by omega) (by omega) (by omega)
  rw [show ((p : Int) + 3).toNat = p + 3 by omega, show ((p : Int) + 3 + ((Xem u).1.size : Int)).toNat = p + 3 + (Xem u).1.size by omega, c1, Yqo u hu0, if_pos rfl] at st
  refine Ymk st ?_
  exact ih (p + 3 + (Xem u).1.size) (i + 1) (x ++ [u]) (fun v hv => hu v (List.mem_cons_of_mem _ hv)) (by rw [hd2]; simp) c2 (by rw [← hx]; simp)
theorem Xvh (s : ByteArray) (hs : s.size ≤ 60000) : Xho s = some (uV s) := by
 have hm : maxLen = 9223372036854775807 := rfl
 unfold Xho
 rw [snA, Yb5 s hs, Xad]
 have hl := Xav s
 have hc := Yii (Xal s).length (Xal s) 0 (Nat.le_refl _)
 have hlen : (Xej 0 (Xal s)).length ≤ 60000 := by
  have : ∀ (L : List Int) (p : Int), (Xej p L).length ≤ L.length := by
   intro L
   induction L with
   | nil => intro p; simp [Xej]
   | cons c r ih => intro p; have := ih (p + 1); rw [Xej]; split <;> simp <;> omega
  have := this (Xal s) 0
  omega
 rw [Xa3 (by simp only [List.length_singleton]; omega)]
 have fin : ∀ r, Ynd s (Xej 0 (Xal s)) (0, []) r → (bnd (loop (Xbg s (Xej 0 (Xal s))) (0, ([] : List ByteArray))) fun o9 => Yq0 s o9) = some r := by
  intro r ⟨o, h1, h2⟩
  exact (Xel h1).trans h2
 refine Yr8 s (fun l hf => ?_) ?_
 ·
  obtain ⟨e1, e2, _, _⟩ := Xnf l s hf
  have := Yfc l 0 e2
  rw [← e1] at this
  exact fin _ (Xnk s hs _ _ rfl (by simp; omega) l hf l 0 0 [] e2 (by rw [this]; rfl) (by rw [e1]; rfl) rfl)
 ·
  obtain ⟨r, hr, h2⟩ := Xti s hs _ _ rfl (by simp; omega) 0 (by simp) (by simp) _ 0 rfl (by omega) (Or.inl ⟨_, List.drop_zero .., by rw [hl, Int.zero_add] at hc; exact hc⟩) [] (by simp) (by simp)
  exact ⟨r, fin _ hr, h2⟩
def Ykn (l : List Xay) (i : Int) : Bool :=
 Xlh (l.getD i.toNat Xa4) && ((l.getD i.toNat Xa4).First == (i == 0)) && ((l.getD i.toNat Xa4).Last == (i == (l.length : Int) - 1)) && (if i > 0 then (l.getD i.toNat Xa4).Seq == Xft (l.getD (i - 1).toNat Xa4).Seq 1 else true)
theorem Xrg (l : List Xay) (i : Nat) (hi : i < l.length) (hl : l.length ≤ 60) (s : ByteArray) (hs : s.size ≤ 400 * i) :
  Xca l (s, (i : Int)) = if Ykn l i = true then some (.go (s ++ (l.getD i Xa4).Bytes, ((i + 1 : Nat) : Int))) else some (.done (.ret ([], false))) := by
 unfold Xca Ykn
 simp only [Int.toNat_natCast]
 rw [wkA (e := (l.length : Int) - 1), wkA (e := (i : Int) - 1), wkA (e := (i : Int) + 1)]
 obtain ⟨p, hp⟩ : ∃ p, l.getD i Xa4 = p := ⟨_, rfl⟩
 obtain ⟨pq, hq⟩ : ∃ p, l.getD ((i : Int) - 1).toNat Xa4 = p := ⟨_, rfl⟩
 simp only [hp, hq]
 rw [syA, rqA, Xjv, Xad]
 obtain ⟨sq, f, la, b⟩ := p
 simp only
 cases h1 : Xlh ⟨sq, f, la, b⟩ with
 | false => rfl
 | true =>
  have h1' := (Xno _).1 h1
  simp only at h1'
  rw [Xa8]
  cases h2 : (f == ((i : Int) == 0)) with
  | false => rfl
  | true =>
   rw [Xa8]
   cases h3 : (la == ((i : Int) == (l.length : Int) - 1)) with
   | false => rfl
   | true =>
    rw [Xa8]
    by_cases h0 : (i : Int) > 0
    ·
     rw [Xa6 h0, rqA, Xkg, Xad, Xad, if_pos h0, bne]
     cases h4 : (sq == Xft pq.Seq 1) with
     | false => rfl
     | true =>
      rw [Bool.not_true, Xa7, rqA]
      rfl
    ·
     rw [Xax h0, Xad, Xa7, if_neg h0, rqA]
     rfl
def inB (B : Int) (l : List Int) : Prop := ∀ x ∈ l, -B ≤ x ∧ x ≤ B
theorem Xrh {B C : Int} {l : List Int} (h : inB B l) (hc : B ≤ C) : inB C l := fun x hx => by have := h x hx; omega
theorem Xg6 {B : Int} {a b : List Int} (ha : inB B a) (hb : inB B b) : inB B (a ++ b) := fun x hx => (List.mem_append.1 hx).elim (ha x) (hb x)
theorem Xnl (B : Int) : inB B [] := fun x hx => by simp at hx
theorem Xy3 {B x : Int} (h : -B ≤ x ∧ x ≤ B) : inB B [x] := fun y hy => by rw [List.mem_singleton.1 hy]; exact h
theorem Yh2 {B : Int} {l : List Int} (h : inB B l) (i : Nat) {y : Int} (hy : -B ≤ y ∧ y ≤ B) : inB B (l.set i y) := fun x hx => by
 rcases List.mem_or_eq_of_mem_set hx with hx | hx
 ·
  exact h x hx
 ·
  rw [hx]; exact hy
theorem Yh1 (n : Nat) {B : Int} (h : 0 ≤ B) : inB B (List.replicate n 0) := fun x hx => by rw [List.eq_of_mem_replicate hx]; omega
theorem Xjd {B : Int} {l : List Int} (h : inB B l) {i : Nat} (hi : i < l.length) : -B ≤ l.getD i 0 ∧ l.getD i 0 ≤ B := h _ (by rw [Xhm l i hi]; exact List.getElem_mem _)
theorem Yn6 {B : Int} {l : List Int} (h : inB B l) (n : Nat) : inB B (l.take n) := fun x hx => h x (List.mem_of_mem_take hx)
theorem Yn5 {B : Int} {l : List Int} (h : inB B l) (n : Nat) : inB B (l.drop n) := fun x hx => h x (List.mem_of_mem_drop hx)
theorem Xdx {S : Type} {f : Int × S → Option (Lp (Int × S) S)} (n : Nat) (I : Nat → S → Prop) (hs : ∀ (i : Nat) (l : S), i < n → I i l → ∃ l', f ((i : Int), l) = some (.go (((i + 1 : Nat) : Int), l')) ∧ I (i + 1) l') (he : ∀ l, f ((n : Int), l) = some (.done l)) (l0 : S) (h0 : I 0 l0) : ∃ o, loop f (0, l0) = some o ∧ I n o := by
 have key : ∀ i : Nat, i ≤ n → ∀ l, I i l → ∃ o, loop f ((i : Int), l) = some o ∧ I n o := by
  refine Xgv _ ?_ ?_
  ·
   intro l h; exact ⟨l, Xgx (he l), h⟩
  ·
   intro i hi ih l h
   obtain ⟨l', e, h'⟩ := hs i l hi h
   obtain ⟨o, e2, h2⟩ := ih l' h'
   exact ⟨o, lgo e e2, h2⟩
 exact key 0 (by omega) l0 h0
theorem Xq3 {S : Type} {f : S × Int → Option (Lp (S × Int) S)} (n : Nat) (I : Nat → S → Prop) (hs : ∀ (i : Nat) (l : S), i < n → I i l → ∃ l', f (l, (i : Int)) = some (.go (l', ((i + 1 : Nat) : Int))) ∧ I (i + 1) l') (he : ∀ l, f (l, (n : Int)) = some (.done l)) (l0 : S) (h0 : I 0 l0) : ∃ o, loop f (l0, 0) = some o ∧ I n o := by
 have key : ∀ i : Nat, i ≤ n → ∀ l, I i l → ∃ o, loop f (l, (i : Int)) = some o ∧ I n o := by
  refine Xgv _ ?_ ?_
  ·
   intro l h; exact ⟨l, Xgx (he l), h⟩
  ·
   intro i hi ih l h
   obtain ⟨l', e, h'⟩ := hs i l hi h
   obtain ⟨o, e2, h2⟩ := ih l' h'
   exact ⟨o, lgo e e2, h2⟩
 exact key 0 (by omega) l0 h0
theorem Xyv (l : List Int) (i j : Nat) (y : Int) (hi : i < l.length) : (l.set i y).getD j 0 = if i = j then y else l.getD j 0 := by
 rw [List.getD_eq_getElem?_getD, List.getElem?_set, List.getD_eq_getElem?_getD]
 by_cases h : i = j
 ·
  subst h; rw [if_pos rfl, if_pos rfl, if_pos hi]; rfl
 ·
  rw [if_neg h, if_neg h]
theorem Xoy {f : Int × List Int → Option (Lp (Int × List Int) (List Int))} (n : Nat) (P Q : Int → Prop) (hs : ∀ (i : Nat) (l : List Int), i < n → l.length = n → P (l.getD i 0) → ∃ y, f ((i : Int), l) = some (.go (((i + 1 : Nat) : Int), l.set i y)) ∧ Q y) (he : ∀ l, f ((n : Int), l) = some (.done l)) (l0 : List Int) (h0 : l0.length = n) (hb : ∀ x ∈ l0, P x) : ∃ o, loop f (0, l0) = some o ∧ o.length = n ∧ ∀ x ∈ o, Q x := by
 obtain ⟨o, e, h1, h2, _⟩ := Xdx (f := f) n (fun i l => l.length = n ∧ (∀ j, j < i → Q (l.getD j 0)) ∧ ∀ j, i ≤ j → j < n → P (l.getD j 0)) (by
  intro i l hi ⟨g1, g2, g3⟩
  obtain ⟨y, e, hy⟩ := hs i l hi g1 (g3 i (Nat.le_refl _) hi)
  refine ⟨_, e, by rw [List.length_set]; exact g1, fun j hj => ?_, fun j hj hj2 => ?_⟩
  ·
   rw [Xyv l i j y (by omega)]
   by_cases h : i = j
   ·
    rw [if_pos h]; exact hy
   ·
    rw [if_neg h]; exact g2 j (by omega)
  ·
   rw [Xyv l i j y (by omega), if_neg (by omega)]; exact g3 j (by omega) hj2) he l0 ⟨h0, fun j hj => by omega, fun j _ hj => hb _ (by rw [Xhm l0 j (by omega)]; exact List.getElem_mem _)⟩
 refine ⟨o, e, h1, fun x hx => ?_⟩
 obtain ⟨j, hj, rfl⟩ := List.getElem_of_mem hx
 have := h2 j (by omega)
 rwa [Xhm o j hj] at this
theorem Xfj (l : List Int) (n B : Int) (hn : (l.length : Int) = n) (hn2 : n ≤ 1000000) (hB : 0 ≤ B ∧ B ≤ 100000000) (h : inB B l) : Xbf l n B = some true := by
 unfold Xbf
 rw [Xbb (by simp only [bne_eq_false_iff_eq]; exact hn), Xl7 l.length (f := Xb9 l n B) (by
  intro i hi
  have := Xjd h hi
  unfold Xb9
  rw [syA, rqA, wkA (e := 0 - B), Xaj, Xad, Int.toNat_natCast, decide_eq_true (by omega), Bool.not_true, Xa7, wkA]
  rfl) (by unfold Xb9; rw [snA]), Xad]
def Xrr (n i : Int) (v17 : Int × Int) : Option (Lp (Int × Int) (Ou Unit Int)) :=
 sel (decide (v17.2 ≤ (Xaa .i64 ((Xaa .i64 (2 * n)) - 2)))) (
 bnd (it (Xkp n i v17) 20 (v17.1, 0)) fun o47 => match o47 with
 | .out v43 => (
 some (.go (v43, Xaa .i64 (v17.2 + 1))))
 | .ret r => some (.done (.ret r))) (
 some (.done (.out ())))
theorem Yg9 {n i : Int} {v : Int × Int} {x : Lp (Int × Int) (Ou Unit Int)} (h : Xrr n i v = some x) : Xh0 n i v = some x := by
 unfold Xrr at h
 unfold Xh0
 rcases Yj1 h with ⟨hb, h⟩ | ⟨hb, h⟩
 ·
  rw [hb, Xa8]
  obtain ⟨a, h1, h2⟩ := Xbl h
  rw [Xnn.2 ⟨20, h1⟩, Xad]
  exact h2
 ·
  rw [hb, Xa7]; exact h
theorem Yq4 {V O : Type} {f g : V → Option (Lp V O)} (hf : ∀ v y, f v = some y → g v = some y) {o : O} : ∀ (k : Nat) (v : V), it f k v = some o → it g k v = some o
 | 0, v, h => by cases h
 | k + 1, v, h => by
  rw [it] at h ⊢
  cases e : f v with
  | none => rw [e] at h; cases h
  | some s =>
   rw [e] at h
   rw [hf v s e]
   cases s with
   | go y => exact Yq4 hf k y h
   | done o' => exact h
def Xhs (n i : Int) : Int := match it (Xrr n i) 20 (0, 0) with | some (.ret q) => q | _ => -1
theorem Yog : ∀ i : Fin 16, (0 ≤ Xhs 4 (i.val : Int) ∧ Xhs 4 (i.val : Int) < 16) := by decide +kernel
theorem Yoh : ∀ i : Fin 64, (0 ≤ Xhs 8 (i.val : Int) ∧ Xhs 8 (i.val : Int) < 64) := by decide +kernel
theorem Xnt (n : Int) (hn : n = 4 ∨ n = 8) (i : Nat) (hi : (i : Int) < n * n) : 0 ≤ Xhs n i ∧ Xhs n i < n * n := by
 rcases hn with rfl | rfl
 ·
  exact Yog ⟨i, by omega⟩
 ·
  exact Yoh ⟨i, by omega⟩
theorem Xpq (n : Int) (hn : n = 4 ∨ n = 8) (i : Nat) (hi : (i : Int) < n * n) : Xiu n i = some (Xhs n i) := by
 have hp := Xnt n hn i hi
 unfold Xiu
 have hw : Xaa .i64 (n * n) = n * n := by rcases hn with rfl | rfl <;> exact wkA
 have hc : (sel (n != 4) (sel (n != 8) (some true) (sel (decide ((i : Int) < 0)) (some true) (some (decide ((i : Int) ≥ (Xaa .i64 (n * n))))))) (sel (decide ((i : Int) < 0)) (some true) (some (decide ((i : Int) ≥ (Xaa .i64 (n * n))))))) = some false := by
  rw [hw, Xax (show ¬ (i : Int) < 0 by omega), decide_eq_false (show ¬ (i : Int) ≥ n * n by omega)]
  rcases hn with rfl | rfl <;> rfl
 rw [hc, Xad, Xa7]
 unfold Xhs at hp ⊢
 cases e : it (Xrr n i) 20 (0, 0) with
 | none => rw [e] at hp; simp only at hp; omega
 | some s =>
  rw [e] at hp
  have h := Yq4 (fun v y => Yg9 (n := n) (i := i)) 20 _ e
  rw [Xnn.2 ⟨20, h⟩, Xad]
  cases s with
  | out u => simp only at hp; omega
  | ret q => rfl
theorem Xkt (n : Int) (hn : n = 4 ∨ n = 8) (l : List Int) (B : Int) (hl : (l.length : Int) = n * n) (hb : inB B l) : ∃ o, Xe0 n l = some (o, true) ∧ o.length = l.length ∧ inB B o := by
 have hm : maxLen = 9223372036854775807 := rfl
 have hw : Xaa .i64 (n * n) = n * n := by rcases hn with rfl | rfl <;> exact wkA
 have hl2 : l.length ≤ 64 := by rcases hn with rfl | rfl <;> omega
 unfold Xe0
 have hc : (sel (n != 4) (sel (n != 8) (some true) (some ((l.length : Int) != (Xaa .i64 (n * n))))) (some ((l.length : Int) != (Xaa .i64 (n * n))))) = some false := by
  rw [hw, hl, bne_self_eq_false]
  rcases hn with rfl | rfl <;> rfl
 rw [hc, Xad, Xa7]
 obtain ⟨o, e, h1, h2⟩ := Xdx (f := Xe1 n l) l.length (fun i s => s.length = i ∧ inB B s) (by
  intro i s hi ⟨g1, g2⟩
  have hp := Xnt n hn i (by omega)
  have ha := Xjd hb (i := (Xhs n i).toNat) (by omega)
  unfold Xe1
  simp only
  rw [hw, syA, Xpq n hn i (by omega), Xad, rqA, Xa3 (by simp only [List.length_singleton]; omega), wkA]
  exact ⟨_, rfl, by simp; omega, Xg6 g2 (Xy3 ha)⟩) (by intro s; unfold Xe1; simp only; rw [hw, snA]) [] ⟨rfl, Xnl B⟩
 exact ⟨o, (Xel e).trans rfl, h1, h2⟩
theorem Xi0 (n : Int) (hn : n = 4 ∨ n = 8) (l : List Int) (B : Int) (hB : 0 ≤ B) (hl : (l.length : Int) = n * n) (hb : inB B l) : ∃ o, Xcz n l = some (o, true) ∧ o.length = l.length ∧ inB B o := by
 have hm : maxLen = 9223372036854775807 := rfl
 have hw : Xaa .i64 (n * n) = n * n := by rcases hn with rfl | rfl <;> exact wkA
 have hl2 : l.length ≤ 64 := by rcases hn with rfl | rfl <;> omega
 unfold Xcz
 have hc : (sel (n != 4) (sel (n != 8) (some true) (some ((l.length : Int) != (Xaa .i64 (n * n))))) (some ((l.length : Int) != (Xaa .i64 (n * n))))) = some false := by
  rw [hw, hl, bne_self_eq_false]
  rcases hn with rfl | rfl <;> rfl
 rw [hc, Xad, Xa7, rqA, Int.toNat_natCast]
 obtain ⟨o, e, h1, h2⟩ := Xdx (f := Xde n l) l.length (fun i s => s.length = l.length ∧ inB B s) (by
  intro i s hi ⟨g1, g2⟩
  have hp := Xnt n hn i (by omega)
  have ha := Xjd hb hi
  unfold Xde
  simp only
  rw [hw, syA, Xpq n hn i (by omega), Xad, rqA, rqA, rqA, wkA, Int.toNat_natCast]
  exact ⟨_, rfl, by rw [List.length_set]; exact g1, Yh2 g2 _ ha⟩) (by intro s; unfold Xde; simp only; rw [hw, snA]) (List.replicate l.length 0) ⟨List.length_replicate, Yh1 _ hB⟩
 exact ⟨o, (Xel e).trans rfl, h1, h2⟩
def Xzq (u v : Int) : Int := match it Xi8 10 (1, (IntKind.wrap .i64 (BitVec.ofInt (IntKind.bits .i64) u &&& BitVec.ofInt (IntKind.bits .i64) v).toNat)) with | some q => q | none => 7
theorem Yp6 : ∀ u v : Fin 8, (-1 ≤ Xzq (u.val : Int) (v.val : Int) ∧ Xzq (u.val : Int) (v.val : Int) ≤ 1) := by decide +kernel
theorem Xpu (u v : Nat) (hu : u < 8) (hv : v < 8) : ∃ s, Xix u v = some s ∧ -1 ≤ s ∧ s ≤ 1 := by
 have h := Yp6 ⟨u, hu⟩ ⟨v, hv⟩
 simp only at h
 unfold Xix
 rw [Xaj, Xad, decide_eq_true (by omega), Xa8, Xaj, Xad, decide_eq_true (by omega), Bool.not_true, Xad, Xa7]
 unfold Xzq at h
 cases e : it Xi8 10 (1, (IntKind.wrap .i64 (BitVec.ofInt (IntKind.bits .i64) (u : Int) &&& BitVec.ofInt (IntKind.bits .i64) (v : Int)).toNat)) with
 | none => rw [e] at h; simp only at h; omega
 | some q =>
  rw [e] at h
  rw [Xnn.2 ⟨10, e⟩, Xad]
  exact ⟨q, rfl, h⟩
def Xye (qp : Int) : Int := if qp.tmod 6 = 0 then 10 else if qp.tmod 6 = 1 then 11 else if qp.tmod 6 = 2 then 13 else if qp.tmod 6 = 3 then 14 else if qp.tmod 6 = 4 then 16 else 18
def Ybt (qp : Int) : Int := match it (Xi9 qp) 10 (Xye qp, 0) with | some q => q | none => 0
theorem Yp8 : ∀ q : Fin 41, (10 ≤ Ybt (q.val : Int) ∧ Ybt (q.val : Int) ≤ 1152) := by decide +kernel
theorem Xpw (qp : Int) (h0 : 0 ≤ qp ∧ qp ≤ 40) : ∃ s, Xiy qp = some s ∧ 10 ≤ s ∧ s ≤ 1152 := by
 have h := Yp8 ⟨qp.toNat, by omega⟩
 simp only at h
 rw [show ((qp.toNat : Nat) : Int) = qp by omega] at h
 unfold Xiy
 rw [Xaj, Xad, decide_eq_true (by omega), Bool.not_true, Xa7, rqA]
 have hb : (sel ((qp.tmod 6) == 0) (some (10 : Int)) (sel ((qp.tmod 6) == 1) (some 11) (sel ((qp.tmod 6) == 2) (some 13) (sel ((qp.tmod 6) == 3) (some 14) (sel ((qp.tmod 6) == 4) (some 16) (some 18)))))) = some (Xye qp) := by
  unfold Xye
  simp only [Yfd, beq_iff_eq]
  repeat' split
  all_goals rfl
 rw [hb, Xad]
 unfold Ybt at h
 cases e : it (Xi9 qp) 10 (Xye qp, 0) with
 | none => rw [e] at h; simp only at h; omega
 | some q =>
  rw [e] at h
  rw [Xnn.2 ⟨10, e⟩, Xad]
  exact ⟨q, rfl, h⟩
theorem Xpo (p : Int) (h : 0 ≤ p ∧ p ≤ 15) : ∃ k, Xit p = some k ∧ 0 ≤ k ∧ k ≤ 2 := by
 unfold Xit
 rw [Xaj, Xad, decide_eq_true h, Bool.not_true, Xa7, rqA, rqA, rqA, rqA, Xcy, Xad]
 cases ((Xaa .i64 (p.tdiv 4)).tmod 2 == 0 && (p.tmod 4).tmod 2 == 0) with
 | true => exact ⟨0, rfl, by omega, by omega⟩
 | false =>
  rw [Xa7, Xcy, Xad]
  cases ((Xaa .i64 (p.tdiv 4)).tmod 2 == 1 && (p.tmod 4).tmod 2 == 1) with
  | true => exact ⟨1, rfl, by omega, by omega⟩
  | false => exact ⟨2, rfl, by omega, by omega⟩
theorem Xbd (k a b c : Int) : ∃ x, Xbe k a b c = some x ∧ (x = a ∨ x = b ∨ x = c) := by
 unfold Xbe
 cases (k == 0) with
 | true => exact ⟨a, rfl, Or.inl rfl⟩
 | false =>
  cases (k == 1) with
  | true => exact ⟨b, rfl, Or.inr (Or.inl rfl)⟩
  | false => exact ⟨c, rfl, Or.inr (Or.inr rfl)⟩
theorem Yku (qp : Int) (h0 : 0 ≤ qp ∧ qp ≤ 40) (x : Int) (hx : 0 ≤ x ∧ x ≤ 29) : ∃ o, loop (Xdc qp) (x, 0) = some o ∧ 0 ≤ o ∧ o ≤ 1856 := by
 obtain ⟨o, e, h1, h2⟩ := Xq3 (f := Xdc qp) (qp / 6).toNat (fun i s => 0 ≤ s ∧ s ≤ 29 * 2 ^ i) (by
  intro i s hi ⟨g1, g2⟩
  have h6 : (2 : Int) ^ i ≤ 64 := by
   have : i ≤ 6 := by omega
   obtain rfl | rfl | rfl | rfl | rfl | rfl | rfl : i = 0 ∨ i = 1 ∨ i = 2 ∨ i = 3 ∨ i = 4 ∨ i = 5 ∨ i = 6 := by omega
   all_goals decide
  have h7 : (2 : Int) ^ (i + 1) = 2 * 2 ^ i := by rw [Int.pow_succ, Int.mul_comm]
  unfold Xdc
  simp only
  rw [rqA, Xb0 (by omega), wkA (e := qp / 6), syA, wkA (e := 2 * s), wkA (e := (i : Int) + 1)]
  exact ⟨_, rfl, by omega, by rw [h7]; omega⟩) (by intro s; unfold Xdc; simp only; rw [rqA, Xb0 (by omega), wkA (e := qp / 6), snA]) x ⟨hx.1, by simp; omega⟩
 have h6 : (2 : Int) ^ (qp / 6).toNat ≤ 64 := by
  generalize hi : (qp / 6).toNat = i
  obtain rfl | rfl | rfl | rfl | rfl | rfl | rfl : i = 0 ∨ i = 1 ∨ i = 2 ∨ i = 3 ∨ i = 4 ∨ i = 5 ∨ i = 6 := by omega
  all_goals decide
 exact ⟨o, e, h1, by omega⟩
theorem Yac (qp p : Int) (h0 : 0 ≤ qp ∧ qp ≤ 40) (hp : 0 ≤ p ∧ p ≤ 15) : ∃ s, Xjh qp p = some s ∧ 0 ≤ s ∧ s ≤ 1856 := by
 unfold Xjh
 obtain ⟨k, e, k0, k1⟩ := Xpo p hp
 rw [e, Xad, Xaj, Xad, decide_eq_true h0, Xa8, decide_eq_false (by omega), Xad, Xa7, rqA]
 obtain ⟨a1, e1, b1⟩ := Xbd k 10 16 13
 obtain ⟨a2, e2, b2⟩ := Xbd k 11 18 14
 obtain ⟨a3, e3, b3⟩ := Xbd k 13 20 16
 obtain ⟨a4, e4, b4⟩ := Xbd k 14 23 18
 obtain ⟨a5, e5, b5⟩ := Xbd k 16 25 20
 obtain ⟨a6, e6, b6⟩ := Xbd k 18 29 23
 rw [e1, e2, e3, e4, e5, e6]
 simp only [Xad, Xzn]
 obtain ⟨o, eo, o1, o2⟩ := Yku qp h0 (sel (qp.tmod 6 == 0) a1 (sel (qp.tmod 6 == 1) a2 (sel (qp.tmod 6 == 2) a3 (sel (qp.tmod 6 == 3) a4 (sel (qp.tmod 6 == 4) a5 (sel (qp.tmod 6 == 5) a6 0)))))) (by
  simp only [Yfd]
  repeat' split
  all_goals omega)
 exact ⟨o, (Xel eo).trans rfl, o1, o2⟩
theorem Yai (qp p : Int) (h0 : 0 ≤ qp ∧ qp ≤ 40) (hp : 0 ≤ p ∧ p ≤ 15) : ∃ s, Xjj qp p = some s ∧ 0 ≤ s ∧ s ≤ 13107 := by
 unfold Xjj
 obtain ⟨k, e, k0, k1⟩ := Xpo p hp
 rw [e, Xad, Xaj, Xad, decide_eq_true h0, Xa8, decide_eq_false (by omega), Xad, Xa7, rqA]
 obtain ⟨a1, e1, b1⟩ := Xbd k 13107 5243 8066
 obtain ⟨a2, e2, b2⟩ := Xbd k 11916 4660 7490
 obtain ⟨a3, e3, b3⟩ := Xbd k 10082 4194 6554
 obtain ⟨a4, e4, b4⟩ := Xbd k 9362 3647 5825
 obtain ⟨a5, e5, b5⟩ := Xbd k 8192 3355 5243
 obtain ⟨a6, e6, b6⟩ := Xbd k 7282 2893 4559
 rw [e1, e2, e3, e4, e5, e6]
 simp only [Xad, Xzn]
 refine ⟨_, rfl, ?_⟩
 simp only [Yfd]
 repeat' split
 all_goals omega
theorem Yjr {a s B : Int} (ha : -B ≤ a ∧ a ≤ B) (hs : -1 ≤ s ∧ s ≤ 1) : (-B ≤ a * s ∧ a * s ≤ B) ∧ (-B ≤ s * a ∧ s * a ≤ B) := by
 obtain rfl | rfl | rfl : s = -1 ∨ s = 0 ∨ s = 1 := by omega
 all_goals omega
theorem Ydj (p : List Int) (B : Int) (hB : 0 ≤ B ∧ B ≤ 1000000000000) (hl : p.length = 64) (hb : inB B p) (i v : Nat) (hi : i < 8) (hv : v < 8) : ∃ o, Xk1 p i v = some o ∧ -(8 * B) ≤ o ∧ o ≤ 8 * B := by
 unfold Xk1
 obtain ⟨o, e, h1, h2⟩ := Xq3 (f := Xga p i v) 8 (fun k s => -(B * k) ≤ s ∧ s ≤ B * k) (by
  intro k s hk ⟨g1, g2⟩
  obtain ⟨q, eq, q0, q1⟩ := Xpu v k hv hk
  have ha := Xjd hb (i := 8 * i + k) (by omega)
  have hm := (Yjr ha ⟨q0, q1⟩).1
  have hk8 : B * k ≤ B * 8 := Int.mul_le_mul_of_nonneg_left (by omega) hB.1
  have hk0 : B * ((k + 1 : Nat) : Int) = B * k + B := by rw [Int.natCast_add, Int.mul_add]; simp
  unfold Xga
  simp only
  rw [syA, wkA (e := 8 * (i : Int)), wkA (e := 8 * (i : Int) + (k : Int)), rqA, eq, Xad, show (8 * (i : Int) + (k : Int)).toNat = 8 * i + k by omega, wkA (e := p.getD (8 * i + k) 0 * q), wkA (e := s + p.getD (8 * i + k) 0 * q), wkA (e := (k : Int) + 1)]
  exact ⟨_, rfl, by rw [hk0]; omega, by rw [hk0]; omega⟩) (by intro s; unfold Xga; rw [Xax (by simp)]) 0 (by simp)
 exact ⟨o, (Xel e).trans rfl, by omega, by omega⟩
theorem Xok (p : List Int) (B : Int) (hB : 0 ≤ B ∧ B ≤ 10000000000) (hl : p.length = 64) (hb : inB B p) : ∃ o, Xhg p = some o ∧ o.length = 64 ∧ inB (64 * B) o := by
 have hm : maxLen = 9223372036854775807 := rfl
 unfold Xhg
 obtain ⟨h, eh, hh1, hh2⟩ := Xdx (f := Xd6 p) 8 (fun i s => s.length = 8 * i ∧ inB (8 * B) s) (by
  intro i s hi ⟨g1, g2⟩
  obtain ⟨t, et, t1, t2⟩ := Xdx (f := Xd7 p ((i : Int), s)) 8 (fun v s => s.length = 8 * i + v ∧ inB (8 * B) s) (by
   intro v s hv ⟨g1, g2⟩
   obtain ⟨r, er, r1, r2⟩ := Ydj p B ⟨hB.1, by omega⟩ hl hb i v hi hv
   unfold Xd7
   simp only
   rw [syA, er, Xad, Xa3 (by simp only [List.length_singleton]; omega), wkA (e := (v : Int) + 1)]
   exact ⟨_, rfl, by simp; omega, Xg6 g2 (Xy3 ⟨by omega, r2⟩)⟩) (by intro s; unfold Xd7; rw [Xax (by simp)]) s ⟨by omega, g2⟩
  unfold Xd6
  simp only
  rw [syA, et, Xad, wkA (e := (i : Int) + 1)]
  exact ⟨_, rfl, by omega, t2⟩) (by intro s; unfold Xd6; rw [Xax (by simp)]) [] ⟨rfl, Xnl _⟩
 rw [eh, Xad]
 obtain ⟨o, eo, o1, o2⟩ := Xdx (f := Xdi h) 8 (fun i s => s.length = 8 * i ∧ inB (64 * B) s) (by
  intro i s hi ⟨g1, g2⟩
  obtain ⟨t, et, t1, t2⟩ := Xdx (f := Xdj h ((i : Int), s)) 8 (fun v s => s.length = 8 * i + v ∧ inB (64 * B) s) (by
   intro v r hv ⟨g1, g2⟩
   obtain ⟨a, ea, a1, a2⟩ := Xq3 (f := Xdk h ((i : Int), s) ((v : Int), r)) 8 (fun k s => -(8 * B * k) ≤ s ∧ s ≤ 8 * B * k) (by
    intro k c hk ⟨g1, g2⟩
    obtain ⟨q, eq, q0, q1⟩ := Xpu i k hi hk
    have ha := Xjd hh2 (i := 8 * k + v) (by omega)
    have hm := (Yjr ha ⟨q0, q1⟩).2
    have hk8 : 8 * B * k ≤ 8 * B * 8 := Int.mul_le_mul_of_nonneg_left (by omega) (by omega)
    have hk0 : 8 * B * ((k + 1 : Nat) : Int) = 8 * B * k + 8 * B := by rw [Int.natCast_add, Int.mul_add]; simp
    unfold Xdk
    simp only
    rw [syA, eq, Xad, wkA (e := 8 * (k : Int)), wkA (e := 8 * (k : Int) + (v : Int)), rqA, rqA, show (8 * (k : Int) + (v : Int)).toNat = 8 * k + v by omega, wkA (e := q * h.getD (8 * k + v) 0), wkA (e := c + q * h.getD (8 * k + v) 0), wkA (e := (k : Int) + 1)]
    exact ⟨_, rfl, by rw [hk0]; omega, by rw [hk0]; omega⟩) (by intro s; unfold Xdk; rw [Xax (by simp)]) 0 (by simp)
   unfold Xdj
   simp only
   rw [syA, ea, Xad, Xa3 (by simp only [List.length_singleton]; omega), wkA (e := (v : Int) + 1)]
   exact ⟨_, rfl, by simp; omega, Xg6 g2 (Xy3 ⟨by omega, by omega⟩)⟩) (by intro s; unfold Xdj; rw [Xax (by simp)]) s ⟨by omega, g2⟩
  unfold Xdi
  simp only
  rw [syA, et, Xad, wkA (e := (i : Int) + 1)]
  exact ⟨_, rfl, by omega, t2⟩) (by intro s; unfold Xdi; rw [Xax (by simp)]) [] ⟨rfl, Xnl _⟩
 exact ⟨o, (Xel eo).trans rfl, by omega, o2⟩
theorem Xia (a b : Int) (ha : -1000000000000 ≤ a ∧ a ≤ 1000000000000) (hb : b = 2 ∨ b = 64) : ∃ d, Xdo a b = some d ∧ b * d ≤ a ∧ a < b * d + b := by
 unfold Xdo
 have h1 : b * (a.tdiv b) + a.tmod b = a := Int.mul_tdiv_add_tmod a b
 have h2 : -b < a.tmod b ∧ a.tmod b < b := by
  have hb0 : 0 < b := by omega
  refine ⟨?_, Int.tmod_lt_of_pos a hb0⟩
  have := Int.lt_tmod_of_pos a hb0
  omega
 rw [rqA, rqA]
 generalize a.tmod b = m at h1 h2
 generalize a.tdiv b = t at h1 h2
 have ht : -1000000000001 ≤ t ∧ t ≤ 1000000000001 := by rcases hb with rfl | rfl <;> omega
 by_cases h : m < 0
 ·
  rw [Xa6 h, Xad, wkA (e := t), wkA (e := t - 1)]
  refine ⟨_, rfl, ?_⟩
  rcases hb with rfl | rfl <;> omega
 ·
  rw [Xax h, Xad, wkA (e := t)]
  refine ⟨_, rfl, ?_⟩
  rcases hb with rfl | rfl <;> omega
theorem Yfi (p : List Int) (hl : p.length = 64) (hb : inB 255 p) : ∃ o, Xl9 p = some o ∧ o.length = 64 := by
 unfold Xl9
 obtain ⟨o, e, h1, h2⟩ := Xok p 255 (by omega) hl hb
 rw [Xfj p 64 1000 (by omega) (by omega) (by omega) (Xrh hb (by omega)), Xad, Bool.not_true, Xa7, e, Xad]
 exact ⟨o, rfl, h1⟩
theorem Xtu (p : List Int) (hl : p.length = 64) (hb : inB 5760000 p) : ∃ o, Xf0 p = some o ∧ o.length = 64 ∧ inB 10000000 o := by
 unfold Xf0
 obtain ⟨o, e, h1, h2⟩ := Xok p 5760000 (by omega) hl hb
 rw [Xfj p 64 10000000 (by omega) (by omega) (by omega) (Xrh hb (by omega)), Xad, Bool.not_true, Xa7, e, Xad]
 obtain ⟨r, er, r1, r2⟩ := Xoy (f := Xc6) 64 (fun x => -368640000 ≤ x ∧ x ≤ 368640000) (fun x => -10000000 ≤ x ∧ x ≤ 10000000) (by
  intro i l hi hll hx
  obtain ⟨d, ed, d1, d2⟩ := Xia (l.getD i 0 + 32) 64 (by omega) (Or.inr rfl)
  unfold Xc6
  simp only [Int.toNat_natCast]
  rw [syA, rqA, rqA, wkA (e := l.getD i 0 + 32), ed, Xad, rqA, rqA, wkA (e := (i : Int) + 1)]
  exact ⟨d, rfl, by omega, by omega⟩) (by intro s; unfold Xc6; rw [Xax (by simp)]) o h1 (fun x hx => by have := h2 x hx; omega)
 exact ⟨r, (Xel er).trans rfl, r1, r2⟩
theorem Xic (p : List Int) (B : Int) (hB : 0 ≤ B) (hl : p.length = 16) (hb : inB B p) : ∃ o, Xdp p = some o ∧ o.length = 16 ∧ inB B o := by
 unfold Xdp
 rw [rqA]
 obtain ⟨o, e, h1, h2⟩ := Xdx (f := Xe9 p) 16 (fun i s => s.length = 16 ∧ inB B s) (by
  intro i s hi ⟨g1, g2⟩
  have ha := Xjd hb (i := i) (by omega)
  unfold Xe9
  simp only
  rw [syA, rqA, rqA, rqA, Xbw (by omega), Xb0 (by omega), wkA (e := (i : Int) / 4), wkA (e := (i : Int) % 4 * 4), wkA (e := (i : Int) % 4 * 4 + (i : Int) / 4), rqA, rqA, wkA (e := (i : Int) + 1), Int.toNat_natCast]
  exact ⟨_, rfl, by rw [List.length_set]; exact g1, Yh2 g2 _ ha⟩) (by intro s; unfold Xe9; rw [Xax (by simp)]) (List.replicate (16 : Int).toNat 0) ⟨by simp, Yh1 _ hB⟩
 exact ⟨o, (Xel e).trans rfl, h1, h2⟩
theorem Yjd {B a b c d : Int} (h1 : -B ≤ a ∧ a ≤ B) (h2 : -B ≤ b ∧ b ≤ B) (h3 : -B ≤ c ∧ c ≤ B) (h4 : -B ≤ d ∧ d ≤ B) : inB B [a, b, c, d] := fun x hx => by
 simp only [List.mem_cons, List.not_mem_nil, or_false] at hx
 rcases hx with rfl | rfl | rfl | rfl
 ·
  exact h1
 ·
  exact h2
 ·
  exact h3
 ·
  exact h4
theorem Xoi (p : List Int) (B : Int) (hB : 0 ≤ B ∧ B ≤ 1000000000) (hl : p.length = 16) (hb : inB B p) : ∃ o, Xhf p = some o ∧ o.length = 16 ∧ inB (6 * B) o := by
 have hm : maxLen = 9223372036854775807 := rfl
 unfold Xhf
 obtain ⟨o, e, h1, h2⟩ := Xdx (f := Xfa p) 4 (fun i s => s.length = 4 * i ∧ inB (6 * B) s) (by
  intro i s hi ⟨g1, g2⟩
  have a0 := Xjd hb (i := 4 * i) (by omega)
  have a1 := Xjd hb (i := 4 * i + 1) (by omega)
  have a2 := Xjd hb (i := 4 * i + 2) (by omega)
  have a3 := Xjd hb (i := 4 * i + 3) (by omega)
  unfold Xfa
  simp only
  rw [syA, wkA (e := 4 * (i : Int)), wkA (e := 4 * (i : Int) + 1), wkA (e := 4 * (i : Int) + 2), wkA (e := 4 * (i : Int) + 3), rqA, rqA, rqA, rqA, show (4 * (i : Int)).toNat = 4 * i by omega, show (4 * (i : Int) + 1).toNat = 4 * i + 1 by omega, show (4 * (i : Int) + 2).toNat = 4 * i + 2 by omega, show (4 * (i : Int) + 3).toNat = 4 * i + 3 by omega]
  generalize p.getD (4 * i) 0 = a at *
  generalize p.getD (4 * i + 1) 0 = b at *
  generalize p.getD (4 * i + 2) 0 = c at *
  generalize p.getD (4 * i + 3) 0 = d at *
  rw [wkA (e := (i : Int) + 1)]
  have w1 : Xaa .i64 (Xaa .i64 (Xaa .i64 (a + b) + c) + d) = a + b + c + d := by
   rw [wkA (e := a + b), wkA (e := a + b + c), wkA]
  have w2 : Xaa .i64 (Xaa .i64 (Xaa .i64 (Xaa .i64 (2 * a) + b) - c) - Xaa .i64 (2 * d)) = 2 * a + b - c - 2 * d := by
   rw [wkA (e := 2 * a), wkA (e := 2 * d), wkA (e := 2 * a + b), wkA (e := 2 * a + b - c), wkA]
  have w3 : Xaa .i64 (Xaa .i64 (Xaa .i64 (a - b) - c) + d) = a - b - c + d := by
   rw [wkA (e := a - b), wkA (e := a - b - c), wkA]
  have w4 : Xaa .i64 (Xaa .i64 (Xaa .i64 (a - Xaa .i64 (2 * b)) + Xaa .i64 (2 * c)) - d) = a - 2 * b + 2 * c - d := by
   rw [wkA (e := 2 * b), wkA (e := 2 * c), wkA (e := a - 2 * b), wkA (e := a - 2 * b + 2 * c), wkA]
  rw [w1, w2, w3, w4, Xa3 (by simp only [List.length_cons, List.length_nil]; omega)]
  exact ⟨_, rfl, by simp; omega, Xg6 g2 (Yjd (by omega) (by omega) (by omega) (by omega))⟩) (by intro s; unfold Xfa; rw [Xax (by simp)]) [] ⟨rfl, Xnl _⟩
 exact ⟨o, (Xel e).trans rfl, h1, h2⟩
theorem Xm2 (p : List Int) (B : Int) (hB : 0 ≤ B ∧ B ≤ 1000000000) (hl : p.length = 16) (hb : inB B p) : ∃ o, Xfq p = some o ∧ o.length = 16 ∧ inB (4 * B + 2) o := by
 have hm : maxLen = 9223372036854775807 := rfl
 unfold Xfq
 obtain ⟨o, e, h1, h2⟩ := Xdx (f := Xd5 p) 4 (fun i s => s.length = 4 * i ∧ inB (4 * B + 2) s) (by
  intro i s hi ⟨g1, g2⟩
  have a0 := Xjd hb (i := 4 * i) (by omega)
  have a1 := Xjd hb (i := 4 * i + 1) (by omega)
  have a2 := Xjd hb (i := 4 * i + 2) (by omega)
  have a3 := Xjd hb (i := 4 * i + 3) (by omega)
  obtain ⟨f, ef, f1, f2⟩ := Xia (p.getD (4 * i + 1) 0) 2 (by omega) (Or.inl rfl)
  obtain ⟨g, eg, g1', g2'⟩ := Xia (p.getD (4 * i + 3) 0) 2 (by omega) (Or.inl rfl)
  unfold Xd5
  simp only
  rw [syA, wkA (e := 4 * (i : Int)), wkA (e := 4 * (i : Int) + 1), wkA (e := 4 * (i : Int) + 2), wkA (e := 4 * (i : Int) + 3), rqA, rqA, rqA, rqA, show (4 * (i : Int)).toNat = 4 * i by omega, show (4 * (i : Int) + 1).toNat = 4 * i + 1 by omega, show (4 * (i : Int) + 2).toNat = 4 * i + 2 by omega, show (4 * (i : Int) + 3).toNat = 4 * i + 3 by omega, ef, Xad, eg, Xad]
  generalize p.getD (4 * i) 0 = a at *
  generalize p.getD (4 * i + 1) 0 = b at *
  generalize p.getD (4 * i + 2) 0 = c at *
  generalize p.getD (4 * i + 3) 0 = d at *
  rw [wkA (e := (i : Int) + 1), wkA (e := a + c), wkA (e := a - c), wkA (e := b + g), wkA (e := f - d), wkA (e := a + c + (b + g)), wkA (e := a - c + (f - d)), wkA (e := a - c - (f - d)), wkA (e := a + c - (b + g)), Xa3 (by simp only [List.length_cons, List.length_nil]; omega)]
  exact ⟨_, rfl, by simp; omega, Xg6 g2 (Yjd (by omega) (by omega) (by omega) (by omega))⟩) (by intro s; unfold Xd5; rw [Xax (by simp)]) [] ⟨rfl, Xnl _⟩
 exact ⟨o, (Xel e).trans rfl, h1, h2⟩
theorem Yhf (p : List Int) (hl : p.length = 16) (hb : inB 255 p) : ∃ o, Xnx p = some o ∧ o.length = 16 ∧ inB 9180 o := by
 unfold Xnx
 obtain ⟨a, ea, a1, a2⟩ := Xoi p 255 (by omega) hl hb
 obtain ⟨b, eb, b1, b2⟩ := Xic a (6 * 255) (by omega) a1 a2
 obtain ⟨c, ec, c1, c2⟩ := Xoi b (6 * 255) (by omega) b1 b2
 obtain ⟨d, ed, d1, d2⟩ := Xic c (6 * (6 * 255)) (by omega) c1 c2
 rw [Xfj p 16 1000 (by omega) (by omega) (by omega) (Xrh hb (by omega)), Xad, Bool.not_true, Xa7, ea, Xad, eb, Xad, ec, Xad, ed, Xad]
 exact ⟨d, rfl, d1, d2⟩
theorem Xvz (p : List Int) (hl : p.length = 16) (hb : inB 10000000 p) : ∃ o, Xhw p = some o ∧ o.length = 16 ∧ inB 10000000 o := by
 unfold Xhw
 obtain ⟨a, ea, a1, a2⟩ := Xm2 p 10000000 (by omega) hl hb
 obtain ⟨b, eb, b1, b2⟩ := Xic a _ (by omega) a1 a2
 obtain ⟨c, ec, c1, c2⟩ := Xm2 b _ (by omega) b1 b2
 obtain ⟨d, ed, d1, d2⟩ := Xic c _ (by omega) c1 c2
 rw [Xfj p 16 10000000 (by omega) (by omega) (by omega) hb, Xad, Bool.not_true, Xa7, ea, Xad, eb, Xad, ec, Xad, ed, Xad]
 obtain ⟨r, er, r1, r2⟩ := Xoy (f := Xd1) 16 (fun x => -160000010 ≤ x ∧ x ≤ 160000010) (fun x => -10000000 ≤ x ∧ x ≤ 10000000) (by
  intro i l hi hll hx
  obtain ⟨d, ed, d1, d2⟩ := Xia (l.getD i 0 + 32) 64 (by omega) (Or.inr rfl)
  unfold Xd1
  simp only [Int.toNat_natCast]
  rw [syA, rqA, rqA, wkA (e := l.getD i 0 + 32), ed, Xad, rqA, rqA, wkA (e := (i : Int) + 1)]
  exact ⟨d, rfl, by omega, by omega⟩) (by intro s; unfold Xd1; rw [Xax (by simp)]) d d1 (fun x hx => by have := d2 x hx; omega)
 exact ⟨r, (Xel er).trans rfl, r1, r2⟩
theorem Xj0 (x : Int) (h : -1000000000000 ≤ x ∧ x ≤ 1000000000000) : Xdw x = some (Yho x) := by
 unfold Xdw Yho
 by_cases hx : x < 0
 ·
  rw [Xa6 hx, if_pos hx, wkA]; congr 1; omega
 ·
  rw [Xax hx, if_neg hx]
theorem Xmf (w x B : Int) (h : 0 ≤ x ∧ x ≤ B) (hB : B ≤ 1000000000) : ∃ o, Xec w x = some o ∧ -B ≤ o ∧ o ≤ B := by
 unfold Xec
 by_cases hx : w < 0
 ·
  rw [Xa6 hx, wkA]; exact ⟨_, rfl, by omega, by omega⟩
 ·
  rw [Xax hx]; exact ⟨_, rfl, by omega, by omega⟩
def Yol (qp : Int) : Int := Xaa .i64 (1 * 2 ^ min (Xaa .u64 (Xaa .i64 (15 + (Xaa .i64 (qp.tdiv 6))))).toNat (IntKind.bits .i64))
theorem Yom : ∀ q : Fin 41, (0 ≤ Xaa .u64 (Xaa .i64 (15 + (Xaa .i64 ((q.val : Int).tdiv 6)))) ∧ 32768 ≤ Yol (q.val : Int) ∧ Yol (q.val : Int) ≤ 2097152) := by decide +kernel
theorem Xsa (w qp p : Int) (hw : -9180 ≤ w ∧ w ≤ 9180) (h0 : 0 ≤ qp ∧ qp ≤ 40) (hp : 0 ≤ p ∧ p ≤ 15) : ∃ o, Xe2 w qp p = some o ∧ -5000 ≤ o ∧ o ≤ 5000 := by
 have hs := Yom ⟨qp.toNat, by omega⟩
 simp only at hs
 rw [show ((qp.toNat : Nat) : Int) = qp by omega] at hs
 obtain ⟨s1, s2, s3⟩ := hs
 obtain ⟨s, es, q0, q1⟩ := Yai qp p h0 hp
 unfold Xe2
 have en : Xaa .i64 (1 * 2 ^ min (Xaa .u64 (Xaa .i64 (15 + (Xaa .i64 (qp.tdiv 6))))).toNat (IntKind.bits .i64)) = Yol qp := rfl
 rw [Xaj, Xad, decide_eq_true (by omega), Xa8, Xaj, Xad, decide_eq_true h0, Xa8, Xaj, Xad, decide_eq_true hp, Bool.not_true, Xad, Xa7, rqA, Xa3 s1, Xj0 w (by omega), Xad, es, Xad, rqA, en]
 generalize Yol qp = n at *
 have ha : 0 ≤ Yho w ∧ Yho w ≤ 9180 := by unfold Yho; split <;> omega
 generalize Yho w = a at *
 have hm : 0 ≤ a * s ∧ a * s ≤ 9180 * 13107 := ⟨Int.mul_nonneg ha.1 q0, Int.mul_le_mul ha.2 q1 q0 (by omega)⟩
 rw [rqA, wkA (e := a * s), Xb0 (a := n) (by omega), wkA (e := n / 3), wkA (e := a * s + n / 3), Xb0 (by omega)]
 have d0 : 0 ≤ (a * s + n / 3) / n := Int.ediv_nonneg (by omega) (by omega)
 have d1 : (a * s + n / 3) / n < 5000 := Int.ediv_lt_of_lt_mul (by omega) (by omega)
 rw [wkA]
 obtain ⟨o, eo, o1, o2⟩ := Xmf w _ 5000 ⟨d0, by omega⟩ (by omega)
 rw [eo, Xad]
 exact ⟨o, rfl, o1, o2⟩
theorem Xr2 (w qp : Int) (h0 : 0 ≤ qp ∧ qp ≤ 40) : ∃ o, Xez w qp = some o ∧ -5000 ≤ o ∧ o ≤ 5000 := by
 unfold Xez
 rw [Xaj, Xad]
 by_cases hw : -20000 ≤ w ∧ w ≤ 20000
 ·
  obtain ⟨s, es, q0, q1⟩ := Xpw qp h0
  rw [decide_eq_true hw, Xa8, Xaj, Xad, decide_eq_true h0, Bool.not_true, Xad, Xa7, es, Xad, Xj0 w (by omega), Xad]
  have ha : 0 ≤ Yho w ∧ Yho w ≤ 20000 := by unfold Yho; split <;> omega
  generalize Yho w = a at *
  rw [rqA, rqA, Xb0 (a := s) (by omega), wkA (e := s / 2), wkA (e := a + s / 2), Xb0 (by omega)]
  have d0 : 0 ≤ (a + s / 2) / s := Int.ediv_nonneg (by omega) (by omega)
  have d1 : (a + s / 2) / s < 5000 := Int.ediv_lt_of_lt_mul (by omega) (by omega)
  rw [wkA]
  obtain ⟨o, eo, o1, o2⟩ := Xmf w _ 5000 ⟨d0, by omega⟩ (by omega)
  rw [eo, Xad]
  exact ⟨o, rfl, o1, o2⟩
 ·
  rw [decide_eq_false hw, Xa7, Xad, Xa8]
  exact ⟨0, rfl, by omega, by omega⟩
theorem Xt6 (l qp p : Int) (hl : -5000 ≤ l ∧ l ≤ 5000) (h0 : 0 ≤ qp ∧ qp ≤ 40) (hp : 0 ≤ p ∧ p ≤ 15) : ∃ o, Xf4 l qp p = some o ∧ -10000000 ≤ o ∧ o ≤ 10000000 := by
 unfold Xf4
 obtain ⟨s, es, q0, q1⟩ := Yac qp p h0 hp
 rw [Xaj, Xad, decide_eq_true hl, Bool.not_true, Xa7, es, Xad]
 have m1 : l * s ≤ 5000 * s := Int.mul_le_mul_of_nonneg_right hl.2 q0
 have m2 : -5000 * s ≤ l * s := Int.mul_le_mul_of_nonneg_right hl.1 q0
 rw [wkA]
 exact ⟨_, rfl, by omega, by omega⟩
theorem Xty (l qp : Int) (hl : -5000 ≤ l ∧ l ≤ 5000) (h0 : 0 ≤ qp ∧ qp ≤ 40) : ∃ o, Xf2 l qp = some o ∧ -5760000 ≤ o ∧ o ≤ 5760000 := by
 unfold Xf2
 obtain ⟨s, es, q0, q1⟩ := Xpw qp h0
 rw [Xaj, Xad, decide_eq_true hl, Bool.not_true, Xa7, es, Xad]
 have m1 : l * s ≤ 5000 * s := Int.mul_le_mul_of_nonneg_right hl.2 (by omega)
 have m2 : -5000 * s ≤ l * s := Int.mul_le_mul_of_nonneg_right hl.1 (by omega)
 rw [wkA]
 exact ⟨_, rfl, by omega, by omega⟩
theorem Yia {l : List Int} (h1 : l.length = 64) (h2 : inB 5000 l) : Ygy l = true := by
 unfold Ygy
 rw [Bool.and_eq_true, decide_eq_true_eq, List.all_eq_true]
 exact ⟨h1, fun x hx => by unfold Yib; rw [decide_eq_true_eq]; exact h2 x hx⟩
theorem Yl7 {l : List Int} (h : Ygy l = true) : l.length = 64 ∧ inB 5000 l := by
 obtain ⟨h1, h2⟩ := Xtm h
 refine ⟨h1, fun x hx => ?_⟩
 have := List.all_eq_true.1 h2 x hx
 unfold Yib at this
 rwa [decide_eq_true_eq] at this
theorem Yf6 {c : Xly} (h : Xph c = true) : 0 ≤ c.Qp ∧ c.Qp ≤ 40 := by
 unfold Xph at h
 rw [Bool.and_eq_true, decide_eq_true_eq] at h
 exact h.1
theorem Xsy (p : List Int) (k : Nat) (hk : k < 4) (B : Int) (hl : p.length = 64) (hb : inB B p) : ∃ o, Xff p k = some o ∧ o.length = 16 ∧ inB B o := by
 have hm : maxLen = 9223372036854775807 := rfl
 unfold Xff
 obtain ⟨o, e, h1, h2⟩ := Xdx (f := Xcu p k) 16 (fun i s => s.length = i ∧ inB B s) (by
  intro i s hi ⟨g1, g2⟩
  have ha := Xjd hb (i := (8 * ((k : Int) / 2 * 4 + (i : Int) / 4) + (k : Int) % 2 * 4 + (i : Int) % 4).toNat) (by omega)
  unfold Xcu
  simp only
  rw [syA, rqA, rqA, rqA, rqA, Xb0 (a := (k : Int)) (by omega), Xb0 (a := (i : Int)) (by omega), Xbw (a := (k : Int)) (by omega), Xbw (a := (i : Int)) (by omega), wkA (e := (k : Int) / 2), wkA (e := (k : Int) / 2 * 4), wkA (e := (i : Int) / 4), wkA (e := (k : Int) / 2 * 4 + (i : Int) / 4), wkA (e := 8 * ((k : Int) / 2 * 4 + (i : Int) / 4)), wkA (e := (k : Int) % 2 * 4), wkA (e := 8 * ((k : Int) / 2 * 4 + (i : Int) / 4) + (k : Int) % 2 * 4), wkA (e := 8 * ((k : Int) / 2 * 4 + (i : Int) / 4) + (k : Int) % 2 * 4 + (i : Int) % 4), rqA, Xa3 (by simp only [List.length_singleton]; omega), wkA (e := (i : Int) + 1)]
  exact ⟨_, rfl, by simp; omega, Xg6 g2 (Xy3 ha)⟩) (by intro s; unfold Xcu; rw [Xax (by simp)]) [] ⟨rfl, Xnl _⟩
 exact ⟨o, (Xel e).trans rfl, h1, h2⟩
theorem Xm0 (p : List Int) (c : Xly) (hc : Xph c = true) (hl : p.length = 64) (hb : inB 255 p) : ∃ o, Xfn p c = some (o, true) ∧ Ygy o = true := by
 have hm : maxLen = 9223372036854775807 := rfl
 have hq := Yf6 hc
 unfold Xfn
 rw [Xfz, Xad, hc, Xa8, Xfj p 64 255 (by omega) (by omega) (by omega) hb, Xad, Bool.not_true, Xad, Xa7]
 cases hE : c.Exact with
 | true =>
  obtain ⟨o, e, h1, h2⟩ := Xkt 8 (Or.inr rfl) p 255 (by omega) hb
  rw [Xa8, e, Xad]
  exact ⟨o, rfl, Yia (by omega) (Xrh h2 (by omega))⟩
 | false =>
  rw [Xa7]
  cases hL : c.Large with
  | true =>
   obtain ⟨w, ew, w1⟩ := Yfi p hl hb
   obtain ⟨l, el, l1, l2⟩ := Xoy (f := Xd2 c) 64 (fun _ => True) (fun x => -5000 ≤ x ∧ x ≤ 5000) (by
    intro i l hi hll _
    obtain ⟨d, ed, d1, d2⟩ := Xr2 (l.getD i 0) c.Qp hq
    unfold Xd2
    simp only [Int.toNat_natCast]
    rw [syA, rqA, rqA, ed, Xad, rqA, rqA, wkA (e := (i : Int) + 1)]
    exact ⟨d, rfl, d1, d2⟩) (by intro s; unfold Xd2; rw [Xax (by simp)]) w w1 (fun _ _ => trivial)
   obtain ⟨o, e, h1, h2⟩ := Xkt 8 (Or.inr rfl) l 5000 (by omega) l2
   rw [Xa8, ew, Xad, el, Xad, e, Xad]
   exact ⟨o, rfl, Yia (by omega) h2⟩
  | false =>
   obtain ⟨o, eo, o1, o2⟩ := Xdx (f := Xc9 p c) 4 (fun k s => s.length = 16 * k ∧ inB 5000 s) (by
    intro k s hk ⟨g1, g2⟩
    obtain ⟨a, ea, a1, a2⟩ := Xsy p k hk 255 hl hb
    obtain ⟨b, eb, b1, b2⟩ := Yhf a a1 a2
    obtain ⟨l, el, l1, l2⟩ := Xoy (f := Xda c) 16 (fun x => -9180 ≤ x ∧ x ≤ 9180) (fun x => -5000 ≤ x ∧ x ≤ 5000) (by
     intro i l hi hll hx
     obtain ⟨d, ed, d1, d2⟩ := Xsa (l.getD i 0) c.Qp i hx hq (by omega)
     unfold Xda
     simp only [Int.toNat_natCast]
     rw [syA, rqA, rqA, ed, Xad, rqA, rqA, wkA (e := (i : Int) + 1)]
     exact ⟨d, rfl, d1, d2⟩) (by intro s; unfold Xda; rw [Xax (by simp)]) b b1 b2
    obtain ⟨r, er, r1, r2⟩ := Xkt 4 (Or.inl rfl) l 5000 (by omega) l2
    unfold Xc9
    simp only
    rw [syA, ea, Xad, eb, Xad, el, Xad, er, Xad]
    simp only
    rw [rqA, wkA (e := (k : Int) + 1)]
    exact ⟨_, rfl, by rw [List.length_append]; omega, Xg6 g2 r2⟩) (by intro s; unfold Xc9; rw [Xax (by simp)]) [] ⟨rfl, Xnl _⟩
   rw [Xa7, eo, Xad]
   exact ⟨o, rfl, Yia (by omega) o2⟩
theorem Xlk (p : List Int) (c : Xly) (hc : Xph c = true) (hp : Ygy p = true) : ∃ o, Xc8 p c = some (o, true) ∧ o.length = 64 ∧ inB 10000000 o := by
 have hm : maxLen = 9223372036854775807 := rfl
 have hq := Yf6 hc
 obtain ⟨hl, hb⟩ := Yl7 hp
 unfold Xc8
 rw [Xfz, Xad, hc, Xa8, Xfj p 64 5000 (by omega) (by omega) (by omega) hb, Xad, Bool.not_true, Xad, Xa7]
 cases hE : c.Exact with
 | true =>
  obtain ⟨o, e, h1, h2⟩ := Xi0 8 (Or.inr rfl) p 5000 (by omega) (by omega) hb
  rw [Xa8, e, Xad]
  exact ⟨o, rfl, by omega, Xrh h2 (by omega)⟩
 | false =>
  rw [Xa7]
  cases hL : c.Large with
  | true =>
   obtain ⟨w, ew, w1, w2⟩ := Xi0 8 (Or.inr rfl) p 5000 (by omega) (by omega) hb
   obtain ⟨l, el, l1, l2⟩ := Xoy (f := Xcq c) 64 (fun x => -5000 ≤ x ∧ x ≤ 5000) (fun x => -5760000 ≤ x ∧ x ≤ 5760000) (by
    intro i l hi hll hx
    obtain ⟨d, ed, d1, d2⟩ := Xty (l.getD i 0) c.Qp hx hq
    unfold Xcq
    simp only [Int.toNat_natCast]
    rw [syA, rqA, rqA, ed, Xad, rqA, rqA, wkA (e := (i : Int) + 1)]
    exact ⟨d, rfl, d1, d2⟩) (by intro s; unfold Xcq; rw [Xax (by simp)]) w (by omega) w2
   obtain ⟨o, e, h1, h2⟩ := Xtu l l1 l2
   rw [Xa8, ew, Xad, el, Xad, e, Xad]
   exact ⟨o, rfl, h1, h2⟩
  | false =>
   obtain ⟨o, eo, o1, o2⟩ := Xdx (f := Xcg p c) 4 (fun k s => s.length = 64 ∧ inB 10000000 s) (by
    intro k s hk ⟨g1, g2⟩
    have hcut : ((p.drop (16 * k)).take 16).length = 16 := by rw [List.length_take, List.length_drop]; omega
    obtain ⟨a, ea, a1, a2⟩ := Xi0 4 (Or.inl rfl) ((p.drop (16 * k)).take 16) 5000 (by omega) (by omega) (Yn6 (Yn5 hb _) _)
    obtain ⟨l, el, l1, l2⟩ := Xoy (f := Xch c) 16 (fun x => -5000 ≤ x ∧ x ≤ 5000) (fun x => -10000000 ≤ x ∧ x ≤ 10000000) (by
     intro i l hi hll hx
     obtain ⟨d, ed, d1, d2⟩ := Xt6 (l.getD i 0) c.Qp i hx hq (by omega)
     unfold Xch
     simp only [Int.toNat_natCast]
     rw [syA, rqA, rqA, ed, Xad, rqA, rqA, wkA (e := (i : Int) + 1)]
     exact ⟨d, rfl, d1, d2⟩) (by intro s; unfold Xch; rw [Xax (by simp)]) a (by omega) a2
    obtain ⟨b, eb, b1, b2⟩ := Xvz l l1 l2
    obtain ⟨r, er, r1, r2⟩ := Xdx (f := Xci ((k : Int), s) b) 16 (fun i s => s.length = 64 ∧ inB 10000000 s) (by
     intro i s hi ⟨g1, g2⟩
     have ha := Xjd b2 (i := i) (by omega)
     unfold Xci
     simp only
     rw [syA, rqA, rqA, rqA, rqA, rqA, rqA, Xb0 (a := (k : Int)) (by omega), Xb0 (a := (i : Int)) (by omega), Xbw (a := (k : Int)) (by omega), Xbw (a := (i : Int)) (by omega), wkA (e := (k : Int) / 2), wkA (e := (k : Int) / 2 * 4), wkA (e := (i : Int) / 4), wkA (e := (k : Int) / 2 * 4 + (i : Int) / 4), wkA (e := 8 * ((k : Int) / 2 * 4 + (i : Int) / 4)), wkA (e := (k : Int) % 2 * 4), wkA (e := 8 * ((k : Int) / 2 * 4 + (i : Int) / 4) + (k : Int) % 2 * 4), wkA (e := 8 * ((k : Int) / 2 * 4 + (i : Int) / 4) + (k : Int) % 2 * 4 + (i : Int) % 4), rqA, rqA, wkA (e := (i : Int) + 1), Int.toNat_natCast]
     exact ⟨_, rfl, by rw [List.length_set]; exact g1, Yh2 g2 _ ha⟩) (by intro s; unfold Xci; rw [Xax (by simp)]) s ⟨g1, g2⟩
    unfold Xcg
    simp only
    rw [syA, wkA (e := 16 * (k : Int)), wkA (e := 16 * (k : Int) + 16), rqA, show (16 * (k : Int)).toNat = 16 * k by omega, show (16 * (k : Int) + 16).toNat - 16 * k = 16 by omega, ea, Xad, el, Xad, eb, Xad, er, Xad, wkA (e := (k : Int) + 1)]
    exact ⟨_, rfl, r1, r2⟩) (by intro s; unfold Xcg; rw [Xax (by simp)]) (List.replicate (64 : Int).toNat 0) ⟨by simp, Yh1 _ (by omega)⟩
   rw [Xa7, rqA, eo, Xad]
   exact ⟨o, rfl, o1, o2⟩
theorem Xgq (l : List Int) (h : Xdy l = true) : Xdq l = some true := by
 obtain ⟨h1, h2⟩ := Xhl h
 unfold Xdq
 rw [Xbb (by simp only [bne_eq_false_iff_eq]; omega), Xl7 l.length (f := Xfd l) (by
  intro i hi
  have := h2 i (by omega)
  unfold Xfd
  rw [syA, rqA, Xaj, Xad, Int.toNat_natCast, decide_eq_true this, Bool.not_true, Xa7, wkA]
  rfl) (by unfold Xfd; rw [snA]), Xad]
theorem Yf7 {l : List Int} (h1 : l.length = 64) (h2 : ∀ x ∈ l, 0 ≤ x ∧ x ≤ 255) : Xdy l = true := by
 unfold Xdy
 rw [Bool.and_eq_true, decide_eq_true_eq, List.all_eq_true]
 exact ⟨h1, fun x hx => by unfold Ylk; rw [decide_eq_true_eq]; exact h2 x hx⟩
theorem Xpm (g b : List Int) (hg : Xdy g = true) (hl : b.length = 64) (hb : inB 10000000 b) : ∃ o, Xis g b = some o ∧ Xdy o = true := by
 have hm : maxLen = 9223372036854775807 := rfl
 obtain ⟨g1, g2⟩ := Xhl hg
 unfold Xis
 rw [Xgq g hg, Xad, Xa8, Xfj b 64 10000000 (by omega) (by omega) (by omega) hb, Xad, Bool.not_true, Xad, Xa7]
 obtain ⟨o, e, h1, h2⟩ := Xdx (f := Xf1 g b) 64 (fun i s => s.length = i ∧ ∀ x ∈ s, 0 ≤ x ∧ x ≤ 255) (by
  intro i s hi ⟨k1, k2⟩
  have ha := Xjd hb (i := i) (by omega)
  have hd := g2 i hi
  have br := Xl0 (n := g.getD i 0 + b.getD i 0) (a := 0) (b := 255) (by omega)
  unfold Xf1
  simp only [Int.toNat_natCast]
  rw [syA, rqA, rqA, wkA (e := g.getD i 0 + b.getD i 0), Xcf, Xad, Xa3 (by simp only [List.length_singleton]; omega), wkA (e := (i : Int) + 1)]
  refine ⟨_, rfl, by simp; omega, fun x hx => ?_⟩
  rcases List.mem_append.1 hx with hx | hx
  ·
   exact k2 x hx
  ·
   rw [List.mem_singleton.1 hx]; exact br) (by intro s; unfold Xf1; rw [Xax (by simp)]) [] ⟨rfl, fun x hx => by simp at hx⟩
 exact ⟨o, (Xel e).trans rfl, Yf7 h1 h2⟩
theorem Xk7 (a b : List Int) (ha : Xdy a = true) (hb : Xdy b = true) : ∃ o, Xfg a b = some o ∧ o.length = 64 ∧ inB 255 o := by
 have hm : maxLen = 9223372036854775807 := rfl
 obtain ⟨a1, a2⟩ := Xhl ha
 obtain ⟨b1, b2⟩ := Xhl hb
 unfold Xfg
 obtain ⟨o, e, h1, h2⟩ := Xdx (f := Xfh a b) 64 (fun i s => s.length = i ∧ inB 255 s) (by
  intro i s hi ⟨k1, k2⟩
  have x := a2 i hi
  have y := b2 i hi
  unfold Xfh
  simp only [Int.toNat_natCast]
  rw [syA, rqA, rqA, wkA (e := a.getD i 0 - b.getD i 0), Xa3 (by simp only [List.length_singleton]; omega), wkA (e := (i : Int) + 1)]
  exact ⟨_, rfl, by simp; omega, Xg6 k2 (Xy3 (by omega))⟩) (by intro s; unfold Xfh; rw [Xax (by simp)]) [] ⟨rfl, Xnl _⟩
 exact ⟨o, (Xel e).trans rfl, h1, h2⟩
theorem Xor (l : List Int) (hl : l.length ≤ 1000000) : ∃ b, Xhj l = some b := by
 unfold Xhj
 have key : ∀ i : Nat, i ≤ l.length → ∃ o, loop (Xdm l) (i : Int) = some o := by
  refine Xgv _ ?_ ?_
  ·
   exact ⟨_, Xgx (by unfold Xdm; rw [snA])⟩
  ·
   intro i hi ⟨o, ih⟩
   cases h : (l.getD i 0 != 0) with
   | true => exact ⟨_, Xgx (by unfold Xdm; rw [syA, rqA, Int.toNat_natCast, h, Xa8])⟩
   | false => exact ⟨o, lgo (by unfold Xdm; rw [syA, rqA, Int.toNat_natCast, h, Xa7, wkA]; rfl) ih⟩
 obtain ⟨o, e⟩ := key 0 (by omega)
 cases o with
 | out u => exact ⟨true, (Xel e).trans rfl⟩
 | ret r => exact ⟨r, (Xel e).trans rfl⟩
def Yf8 (e : Xnb) : Prop := (e.Above.length = 0 ∨ e.Above.length = 8) ∧ (e.Left.length = 0 ∨ e.Left.length = 8) ∧ (∀ x ∈ e.Above, 0 ≤ x ∧ x ≤ 255) ∧ (∀ x ∈ e.Left, 0 ≤ x ∧ x ≤ 255) ∧ -1 ≤ e.Corner ∧ e.Corner ≤ 255
theorem Xm3 {p : Pic} (ok : Xef p = true) (x y : Int) : Xed p x y 8 8 = some (Xhn p x y) := by
 obtain ⟨k1, k2, k3⟩ := Xcx ok
 unfold Xed Xhn
 rw [Xb5, Xad, ok, Xa8, Xaj, Xad, Xaj, Xad, wkA (e := p.Wide - 8), wkA (e := p.High - 8), Xaj, Xad, Xaj, Xad]
 simp only [Xcy, Xad]
 congr 1
 rw [Bool.eq_iff_iff]
 simp only [Bool.and_eq_true, decide_eq_true_eq]
 omega
theorem Xgr {p : Pic} (ok : Xef p = true) {x y : Int} (hx : x.tmod 8 = 0) (hy : y.tmod 8 = 0) (h : Xhn p x y = true) : Xdr p x y = some true := by
 unfold Xdr
 rw [rqA, hx, rqA, hy, Xm3 ok, Xad, h]
 rfl
theorem Xnv {p : Pic} (ok : Xef p = true) {x y : Int} (hx : x.tmod 8 = 0) (hy : y.tmod 8 = 0) (h : Xhn p x y = true) : ∃ e, Xg8 p x y = some (e, true) ∧ Yf8 e := by
 have hm : maxLen = 9223372036854775807 := rfl
 obtain ⟨k1, k2, k3⟩ := Xcx ok
 have h' := h
 unfold Xhn at h'
 rw [decide_eq_true_eq] at h'
 unfold Xg8
 rw [Xgr ok hx hy h, Xad, Bool.not_true, Xa7]
 obtain ⟨o, e, o1, o2, o3, o4, o5, o6⟩ := Xdx (f := Xew p x y) 8 (fun i s => (y > 0 → s.1.length = i) ∧ (¬ y > 0 → s.1.length = 0) ∧ (x > 0 → s.2.length = i) ∧ (¬ x > 0 → s.2.length = 0) ∧ (∀ z ∈ s.1, 0 ≤ z ∧ z ≤ 255) ∧ (∀ z ∈ s.2, 0 ≤ z ∧ z ≤ 255)) (by
  intro i s hi ⟨g1, g2, g3, g4, g5, g6⟩
  obtain ⟨a, b⟩ := s
  simp only at g1 g2 g3 g4 g5 g6
  have d1 := Xmk p (x + i) (y - 1)
  have d2 := Xmk p (x - 1) (y + i)
  have st1 : ∃ a', (sel (decide (y > 0)) (bnd (Xc5 p (Xaa .i64 (x + (i : Int))) (Xaa .i64 (y - 1))) fun q16 => req ((a.length + ([q16]).length) * 8 ≤ 140737488355328 ∧ a.length + ([q16]).length ≤ maxLen) <| some (a ++ ([q16]))) (some a)) = some a' ∧ (y > 0 → a'.length = i + 1) ∧ (¬ y > 0 → a'.length = 0) ∧ (∀ z ∈ a', 0 ≤ z ∧ z ≤ 255) := by
   by_cases c : y > 0
   ·
    rw [Xa6 c, wkA (e := x + (i : Int)), wkA (e := y - 1), Xhv ok, Xad, Xa3 (by simp only [List.length_singleton]; have := g1 c; omega)]
    refine ⟨_, rfl, fun _ => by simp; exact g1 c, fun hn => absurd c hn, fun z hz => ?_⟩
    rcases List.mem_append.1 hz with hz | hz
    ·
     exact g5 z hz
    ·
     rw [List.mem_singleton.1 hz]; exact d1
   ·
    rw [Xax c]
    exact ⟨_, rfl, fun hn => absurd hn c, fun _ => g2 c, g5⟩
  obtain ⟨a', ea, a1, a2, a3⟩ := st1
  have st2 : ∃ b', (sel (decide (x > 0)) (bnd (Xc5 p (Xaa .i64 (x - 1)) (Xaa .i64 (y + (i : Int)))) fun q17 => req ((b.length + ([q17]).length) * 8 ≤ 140737488355328 ∧ b.length + ([q17]).length ≤ maxLen) <| some (a', (b ++ ([q17])))) (some (a', b))) = some (a', b') ∧ (x > 0 → b'.length = i + 1) ∧ (¬ x > 0 → b'.length = 0) ∧ (∀ z ∈ b', 0 ≤ z ∧ z ≤ 255) := by
   by_cases c : x > 0
   ·
    rw [Xa6 c, wkA (e := y + (i : Int)), wkA (e := x - 1), Xhv ok, Xad, Xa3 (by simp only [List.length_singleton]; have := g3 c; omega)]
    refine ⟨_, rfl, fun _ => by simp; exact g3 c, fun hn => absurd c hn, fun z hz => ?_⟩
    rcases List.mem_append.1 hz with hz | hz
    ·
     exact g6 z hz
    ·
     rw [List.mem_singleton.1 hz]; exact d2
   ·
    rw [Xax c]
    exact ⟨_, rfl, fun hn => absurd hn c, fun _ => g4 c, g6⟩
  obtain ⟨b', eb, b1, b2, b3⟩ := st2
  unfold Xew
  simp only
  rw [syA, ea, Xad, eb, Xad, wkA (e := (i : Int) + 1)]
  exact ⟨(a', b'), rfl, a1, a2, b1, b2, a3, b3⟩) (by intro s; unfold Xew; rw [Xax (by simp)]) ([], []) ⟨fun _ => rfl, fun _ => rfl, fun _ => rfl, fun _ => rfl, fun z hz => by simp at hz, fun z hz => by simp at hz⟩
 rw [e, Xad, Xcy, Xad]
 have d3 := Xmk p (x - 1) (y - 1)
 have ha : o.1.length = 0 ∨ o.1.length = 8 := by
  by_cases c : y > 0
  ·
   exact Or.inr (o1 c)
  ·
   exact Or.inl (o2 c)
 have hb : o.2.length = 0 ∨ o.2.length = 8 := by
  by_cases c : x > 0
  ·
   exact Or.inr (o3 c)
  ·
   exact Or.inl (o4 c)
 cases hc : (decide (x > 0) && decide (y > 0)) with
 | true =>
  rw [Xa8, wkA (e := x - 1), wkA (e := y - 1), Xhv ok, Xad, Xad]
  exact ⟨_, rfl, ha, hb, o5, o6, by simp only; omega, by simp only; omega⟩
 | false =>
  rw [Xa7, Xad]
  exact ⟨_, rfl, ha, hb, o5, o6, by simp only; omega, by simp only; omega⟩
theorem Xm8 (l : List Int) (hl : l.length = 0 ∨ l.length = 8) (h : ∀ x ∈ l, 0 ≤ x ∧ x ≤ 255) : Xhh l = some true := by
 unfold Xhh
 have hc : (sel ((l.length : Int) != 0) (some ((l.length : Int) != 8)) (some false)) = some false := by
  rcases hl with e | e
  ·
   rw [e]; rfl
  ·
   rw [e]; rfl
 rw [hc, Xad, Xa7, Xl7 l.length (f := Xfe l) (by
  intro i hi
  have := h (l.getD i 0) (by rw [Xhm l i hi]; exact List.getElem_mem _)
  unfold Xfe
  rw [syA, rqA, Xaj, Xad, Int.toNat_natCast, decide_eq_true this, Bool.not_true, Xa7, wkA]
  rfl) (by unfold Xfe; rw [snA]), Xad]
theorem Xmy {e : Xnb} (h : Yf8 e) : Xg9 e = some true := by
 obtain ⟨h1, h2, h3, h4, h5, h6⟩ := h
 unfold Xg9
 rw [Xm8 _ h1 h3, Xad, Xa8, Xm8 _ h2 h4, Xad, Xa8, Xaj, Xad, decide_eq_true ⟨h5, h6⟩, Xad]
theorem Xmi (l : List Int) (k : Nat) (hk : k < 8) (hl : l.length = 0 ∨ l.length = 8) (h : ∀ x ∈ l, 0 ≤ x ∧ x ≤ 255) : ∃ x, Xee l k = some x ∧ 0 ≤ x ∧ x ≤ 255 := by
 unfold Xee
 rcases hl with e | e
 ·
  rw [Xbi (by rw [e]; rfl)]; exact ⟨_, rfl, by omega, by omega⟩
 ·
  rw [Xbb (by rw [e]; rfl), rqA, Int.toNat_natCast]
  exact ⟨_, rfl, h _ (by rw [Xhm l k (by omega)]; exact List.getElem_mem _)⟩
theorem Ydl {e : Xnb} (h : Yf8 e) : ∃ x, Xk2 e = some x ∧ 0 ≤ x ∧ x ≤ 255 := by
 obtain ⟨h1, h2, h3, h4, _, _⟩ := h
 unfold Xk2
 rw [wkA (e := (e.Above.length : Int) + (e.Left.length : Int))]
 by_cases hz : (e.Above.length : Int) + (e.Left.length : Int) = 0
 ·
  rw [Xbi (by simpa using hz)]; exact ⟨_, rfl, by omega, by omega⟩
 ·
  rw [Xbb (by simpa using hz), rqA, Xb0 (by omega), wkA (e := ((e.Above.length : Int) + (e.Left.length : Int)) / 2)]
  obtain ⟨a, ea, a1, a2⟩ := Xq3 (f := Xgb e) e.Above.length (fun i s => 0 ≤ s ∧ s ≤ ((e.Above.length : Int) + (e.Left.length : Int)) / 2 + 255 * i) (by
   intro i s hi ⟨g1, g2⟩
   have := h3 (e.Above.getD i 0) (by rw [Xhm _ i hi]; exact List.getElem_mem _)
   unfold Xgb
   simp only [Int.toNat_natCast]
   rw [syA, rqA, wkA (e := s + e.Above.getD i 0), wkA (e := (i : Int) + 1)]
   exact ⟨_, rfl, by omega, by omega⟩) (by intro s; unfold Xgb; rw [Xax (by simp)]) (((e.Above.length : Int) + (e.Left.length : Int)) / 2) ⟨by omega, by omega⟩
  obtain ⟨b, eb, b1, b2⟩ := Xq3 (f := Xgc e) e.Left.length (fun i s => 0 ≤ s ∧ s ≤ ((e.Above.length : Int) + (e.Left.length : Int)) / 2 + 255 * e.Above.length + 255 * i) (by
   intro i s hi ⟨g1, g2⟩
   have := h4 (e.Left.getD i 0) (by rw [Xhm _ i hi]; exact List.getElem_mem _)
   unfold Xgc
   simp only [Int.toNat_natCast]
   rw [syA, rqA, wkA (e := s + e.Left.getD i 0), wkA (e := (i : Int) + 1)]
   exact ⟨_, rfl, by omega, by omega⟩) (by intro s; unfold Xgc; rw [Xax (by simp)]) a ⟨by omega, by omega⟩
  rw [ea, Xad, eb, Xad, Xa3 hz, Xb0 b1]
  have hn : (e.Above.length : Int) + (e.Left.length : Int) = 8 ∨ (e.Above.length : Int) + (e.Left.length : Int) = 16 := by omega
  have hr : 0 ≤ b / ((e.Above.length : Int) + (e.Left.length : Int)) ∧ b / ((e.Above.length : Int) + (e.Left.length : Int)) ≤ 255 := by
   rcases hn with hn | hn <;> rw [hn] <;> omega
  rw [wkA]
  exact ⟨_, rfl, hr⟩
theorem Xkn (m : Int) (hm0 : 0 ≤ m ∧ m ≤ 3) {e : Xnb} (h : Yf8 e) : ∃ g, Xex m e = some g ∧ Xdy g = true := by
 have hm : maxLen = 9223372036854775807 := rfl
 have h' := h
 obtain ⟨h1, h2, h3, h4, h5, h6⟩ := h'
 obtain ⟨mid, em, m1, m2⟩ := Ydl h
 unfold Xex
 rw [Xmy h, Xad, Xa8, Xaj, Xad, decide_eq_true hm0, Bool.not_true, Xad, Xa7]
 have hc : ∃ v, sel (decide (e.Corner < 0)) (some (128 : Int)) (some e.Corner) = some v ∧ 0 ≤ v ∧ v ≤ 255 := by
  by_cases c : e.Corner < 0
  ·
   rw [Xa6 c]; exact ⟨_, rfl, by omega, by omega⟩
  ·
   rw [Xax c]; exact ⟨_, rfl, by omega, by omega⟩
 obtain ⟨v, ev, v1, v2⟩ := hc
 rw [ev, Xad]
 obtain ⟨o, eo, o1, o2⟩ := Xdx (f := Xey m e v) 64 (fun i s => s.length = i ∧ ∀ x ∈ s, 0 ≤ x ∧ x ≤ 255) (by
  intro i s hi ⟨g1, g2⟩
  obtain ⟨a, ea, a1, a2⟩ := Xmi e.Above (i % 8) (by omega) h1 h3
  obtain ⟨b, eb, b1, b2⟩ := Xmi e.Left (i / 8) (by omega) h2 h4
  have br := Xl0 (n := b + a - v) (a := 0) (b := 255) (by omega)
  have put : ∀ z : Int, 0 ≤ z ∧ z ≤ 255 → (s ++ [z]).length = i + 1 ∧ ∀ x ∈ s ++ [z], 0 ≤ x ∧ x ≤ 255 := by
   intro z hz
   refine ⟨by simp; omega, fun x hx => ?_⟩
   rcases List.mem_append.1 hx with hx | hx
   ·
    exact g2 x hx
   ·
    rw [List.mem_singleton.1 hx]; exact hz
  unfold Xey
  simp only
  rw [syA, rqA, Xbw (by omega), show (i : Int) % 8 = ((i % 8 : Nat) : Int) by omega, ea, Xad, rqA, Xb0 (by omega), wkA (e := (i : Int) / 8), show (i : Int) / 8 = ((i / 8 : Nat) : Int) by omega, eb, Xad, wkA (e := (i : Int) + 1), em]
  cases (m == 0) with
  | true =>
   rw [Xa8, Xad, Xa3 (by simp only [List.length_singleton]; omega), Xad]
   exact ⟨_, rfl, put _ ⟨m1, m2⟩⟩
  | false =>
   rw [Xa7]
   cases (m == 1) with
   | true =>
    rw [Xa8, Xa3 (by simp only [List.length_singleton]; omega), Xad]
    exact ⟨_, rfl, put _ ⟨a1, a2⟩⟩
   | false =>
    rw [Xa7]
    cases (m == 2) with
    | true =>
     rw [Xa8, Xa3 (by simp only [List.length_singleton]; omega), Xad]
     exact ⟨_, rfl, put _ ⟨b1, b2⟩⟩
    | false =>
     rw [Xa7, wkA (e := b + a), wkA (e := b + a - v), Xcf, Xad, Xa3 (by simp only [List.length_singleton]; omega), Xad]
     exact ⟨_, rfl, put _ br⟩) (by intro s; unfold Xey; rw [Xax (by simp)]) [] ⟨rfl, fun x hx => by simp at hx⟩
 exact ⟨o, (Xel eo).trans rfl, Yf7 o1 o2⟩
theorem Yjc {l : List Int} (h : Xdy l = true) : l.length = 64 ∧ inB 1000 l := by
 simp only [Xdy, Bool.and_eq_true, decide_eq_true_eq] at h
 refine ⟨h.1, fun x hx => ?_⟩
 have := List.all_eq_true.1 h.2 x hx
 simp only [Ylk, decide_eq_true_eq] at this
 omega
theorem Xry {a b : List Int} (ha : Xdy a = true) (hb : Xdy b = true) : Xkc a b = some (Xvb a b 64) := by
 have la := Yjc ha
 have lb := Yjc hb
 unfold Xkc
 rw [Xfj a 64 1000 (by omega) (by omega) (by omega) la.2, Xad, Xa8, Xfj b 64 1000 (by omega) (by omega) (by omega) lb.2, Xad, Bool.not_true, Xad, Xa7]
 have key : ∀ i : Nat, i ≤ 64 → loop (Xhx a b) (Xvb a b i, (i : Int)) = some (Xvb a b 64) := by
  refine Xgv _ ?_ ?_
  ·
   exact Xgx (by unfold Xhx; rw [Xax (by simp)])
  ·
   intro i hi ih
   refine lgo (y := (Xvb a b (i + 1), ((i + 1 : Nat) : Int))) ?_ ih
   have p := (Xhl ha).2 i hi
   have q := (Xhl hb).2 i hi
   have g := Xu3 ha hb i (by omega)
   have ab : 0 ≤ Yho (a.getD i 0 - b.getD i 0) ∧ Yho (a.getD i 0 - b.getD i 0) ≤ 255 := by unfold Yho; split <;> omega
   unfold Xhx
   simp only [Int.toNat_natCast]
   rw [syA, rqA, rqA, wkA (e := a.getD i 0 - b.getD i 0), Xj0 _ (by omega), Xad, wkA (e := Xvb a b i + Yho (a.getD i 0 - b.getD i 0)), wkA (e := (i : Int) + 1)]
   rfl
 exact (Xel (key 0 (by omega))).trans rfl
theorem Yc2 (m : Int) (h : 0 ≤ m ∧ m ≤ 3) : ∃ s, Xku m = some s ∧ 0 ≤ s ∧ s ≤ 39 := by
 have := Xeg m.toNat (by omega)
 unfold Xku Xo6
 rw [Xaj, Xad, decide_eq_true (by omega), Bool.not_true, Xa7, show m = ((m.toNat : Nat) : Int) by omega, Xbv _ (by omega), Xad, Xad]
 refine ⟨_, rfl, ?_⟩
 rw [strOfNums_size]; omega
theorem Xtq {w : List Int} (hw : Xdy w = true) {e : Xnb} (h : Yf8 e) : ∃ m c, Xfx w e = some (m, c) ∧ 0 ≤ m ∧ m ≤ 3 := by
 unfold Xfx
 rw [Xmy h, Xad, Xa8, Xgq w hw, Xad, Bool.not_true, Xad, Xa7]
 obtain ⟨o, eo, o1, o2⟩ := Xgh (f := Xfk w e) (fun v => (0 ≤ v.1 ∧ v.1 ≤ 3) ∧ 0 ≤ v.2.2 ∧ v.2.2 ≤ 4) (fun v => (4 - v.2.2).toNat) (fun _ o => 0 ≤ o.1 ∧ o.1 ≤ 3) (by
  intro ⟨m, c, i⟩ ⟨g1, g2, g3⟩
  simp only at g1 g2 g3
  unfold Xfk
  simp only
  by_cases hi : i < 4
  ·
   obtain ⟨g, eg, hg⟩ := Xkn i ⟨g2, by omega⟩ h
   obtain ⟨s, es, s1, s2⟩ := Yc2 i ⟨g2, by omega⟩
   rw [Xa6 hi, eg, Xad, Xry hw hg, Xad, es, Xad, Xu8, Xad, wkA (e := i + 1)]
   cases (decide (c < 0) || decide (Xaa IntKind.i64 (Xvb w g 64 + s) < c)) with
   | true => exact .inr ⟨_, rfl, ⟨by simp only; omega, by simp only; omega, by simp only; omega⟩, by simp only; omega, fun _ h => h⟩
   | false => exact .inr ⟨_, rfl, ⟨by simp only; omega, by simp only; omega, by simp only; omega⟩, by simp only; omega, fun _ h => h⟩
  ·
   rw [Xax hi]
   exact .inl ⟨_, rfl, g1⟩) (0, -1, 0) ⟨by simp, by simp, by simp⟩
 exact ⟨o.1, o.2, (Xel eo).trans rfl, o1, o2⟩
theorem Xps (d : Int) (h : -500000 ≤ d ∧ d ≤ 500000) : Xiv d = some (Yrw d) := by
 unfold Xiv Xo5 Yrw
 rw [Xaj, Xad, decide_eq_true h, Bool.not_true, Xa7, Xh6 d h, Xad, Xad, strOfNums_size]
theorem Xvn {p : Pic} {w : List Int} {x y r : Int} (ok : Xef p = true) (hw : Xdy w = true) (hr : 0 ≤ r ∧ r ≤ 4) (hx : x.tmod 8 = 0) (hy : y.tmod 8 = 0) (h0 : Xhn p x y = true) :
  ∃ b, Xht p w x y r = some b ∧ (-4 ≤ b.1 ∧ b.1 ≤ 4) ∧ (-4 ≤ b.2.1 ∧ b.2.1 ≤ 4) := by
 obtain ⟨k1, k2, k3⟩ := Xcx ok
 have h0' := h0
 unfold Xhn at h0'
 rw [decide_eq_true_eq] at h0'
 unfold Xht
 rw [Xgq w hw, Xad, Xa8, Xaj, Xad, decide_eq_true hr, Xa8, Xgr ok hx hy h0, Xad, Bool.not_true, Xad, Xa7, wkA (e := 0 - r)]
 obtain ⟨o, h, ho⟩ := Xgh (f := Xfl p w x y r) (fun s => -r ≤ s.2.2.2 ∧ s.2.2.2 ≤ r + 1 ∧ (-4 ≤ s.1 ∧ s.1 ≤ 4) ∧ (-4 ≤ s.2.1 ∧ s.2.1 ≤ 4)) (fun s => (r + 1 - s.2.2.2).toNat) (fun _ b => (-4 ≤ b.1 ∧ b.1 ≤ 4) ∧ (-4 ≤ b.2.1 ∧ b.2.1 ≤ 4)) (by
  intro s ⟨g1, g2, g3⟩
  unfold Xfl
  by_cases hi : s.2.2.2 ≤ r
  ·
   rw [Xa6 hi, wkA (e := s.2.2.2 + 1), wkA (e := 0 - r)]
   obtain ⟨o, h, ho⟩ := Xgh (f := Xfm p w x y r s) (fun v => -r ≤ v.2.2.2 ∧ v.2.2.2 ≤ r + 1 ∧ (-4 ≤ v.1 ∧ v.1 ≤ 4) ∧ (-4 ≤ v.2.1 ∧ v.2.1 ≤ 4)) (fun v => (r + 1 - v.2.2.2).toNat) (fun _ b => (-4 ≤ b.1 ∧ b.1 ≤ 4) ∧ (-4 ≤ b.2.1 ∧ b.2.1 ≤ 4)) (by
    intro v ⟨f1, f2, f3⟩
    unfold Xfm
    by_cases hv : v.2.2.2 ≤ r
    ·
     rw [Xa6 hv, wkA (e := x + v.2.2.2), wkA (e := y + s.2.2.2), wkA (e := v.2.2.2 + 1), Xm3 ok, Xad]
     cases hh : Xhn p (x + v.2.2.2) (y + s.2.2.2) with
     | false => exact .inr ⟨_, rfl, ⟨by simp only; omega, by simp only; omega, f3⟩, by simp only; omega, fun _ h => h⟩
     | true =>
      have hb := Xlz p (x + v.2.2.2) (y + s.2.2.2)
      rw [Bool.not_true, Xa7, Xeu ok _ _ (by omega) (by omega), Xad, Xry hw hb, Xad, Xps _ (by omega), Xad, Xps _ (by omega), Xad, Xu8, Xad]
      cases (decide (v.2.2.1 < 0) || decide (Xaa IntKind.i64 (Xaa IntKind.i64 (Xvb w (Yk3 p (x + v.2.2.2) (y + s.2.2.2) 64) 64 + Yrw v.2.2.2) + Yrw s.2.2.2) < v.2.2.1)) with
      | true => exact .inr ⟨_, rfl, ⟨by simp only; omega, by simp only; omega, by simp only; omega⟩, by simp only; omega, fun _ h => h⟩
      | false => exact .inr ⟨_, rfl, ⟨by simp only; omega, by simp only; omega, f3⟩, by simp only; omega, fun _ h => h⟩
    ·
     rw [Xax hv]
     exact .inl ⟨_, rfl, f3⟩) (s.1, s.2.1, s.2.2.1, 0 - r) ⟨by simp only; omega, by simp only; omega, g3⟩
   rw [h, Xad]
   exact .inr ⟨_, rfl, ⟨by simp only; omega, by simp only; omega, ho⟩, by simp only; omega, fun _ h => h⟩
  ·
   rw [Xax hi]
   exact .inl ⟨_, rfl, g3⟩) (0, 0, -1, 0 - r) ⟨by simp only; omega, by simp only; omega, by simp, by simp⟩
 rw [h, Xad]
 exact ⟨_, rfl, ho⟩
theorem Yhi : Xu9 ⟨0, 0, 0, 0, []⟩ = true := rfl
theorem Yef {m : Int} {l : List Int} (hm : 0 ≤ m ∧ m ≤ 3) (hl : Ygy l = true) : Xu9 ⟨2, m, 0, 0, l⟩ = true := by
 unfold Xu9
 simp only
 rw [if_neg (by omega), if_neg (by omega), if_pos trivial, hl, decide_eq_true hm]
 rfl
theorem Ymy {dx dy : Int} {l : List Int} (hx : -16 ≤ dx ∧ dx ≤ 16) (hy : -16 ≤ dy ∧ dy ≤ 16) (hl : Ygy l = true) : Xu9 ⟨1, 0, dx, dy, l⟩ = true := by
 unfold Xu9
 simp only
 rw [if_neg (by omega), if_pos trivial, hl, decide_eq_true hx, decide_eq_true hy]
 rfl
theorem Xuu {now ref : Pic} {w : List Int} {x y r : Int} {c : Xly} (ok : Xef now = true) (hx : x.tmod 8 = 0) (hy : y.tmod 8 = 0) (h0 : Xhn now x y = true) (hw : Xdy w = true) (hc : Xph c = true) (hr : 0 ≤ r ∧ r ≤ 4)
  (hk : c.Key = false → Xef ref = true ∧ ref.Wide = now.Wide ∧ ref.High = now.High) : ∃ q, Xgf now ref w x y c r = some q ∧ Xu9 q = true ∧ (c.Key = true → q.Kind = 2) ∧ (-4 ≤ q.Dx ∧ q.Dx ≤ 4) ∧ (-4 ≤ q.Dy ∧ q.Dy ≤ 4) := by
 obtain ⟨k1, k2, k3⟩ := Xcx ok
 have h0' := h0
 unfold Xhn at h0'
 rw [decide_eq_true_eq] at h0'
 obtain ⟨e, ee, he⟩ := Xnv ok hx hy h0
 obtain ⟨m, cost, em, m1, m2⟩ := Xtq hw he
 obtain ⟨g, eg, hg⟩ := Xkn m ⟨m1, m2⟩ he
 obtain ⟨l, el, l1, l2⟩ := Xk7 w g hw hg
 obtain ⟨v, ev, hv⟩ := Xm0 l c hc l1 l2
 unfold Xgf Yh4
 simp only
 cases hK : c.Key with
 | true =>
  rw [Xa8, Xad, Xa7, ee, Xad, em, Xad, Bool.not_true, Xa7, eg, Xad, el, Xad, ev, Xad]
  exact ⟨_, rfl, Yef ⟨m1, m2⟩ hv, fun _ => rfl, by simp, by simp⟩
 | false =>
  obtain ⟨rok, rw', rh'⟩ := hk hK
  have h0r : Xhn ref x y = true := by unfold Xhn; rw [decide_eq_true_eq, rw', rh']; exact h0'
  obtain ⟨t, et, t1, t2⟩ := Xk7 w _ hw (Xlz ref x y)
  obtain ⟨z, ez⟩ := Xor t (by omega)
  rw [Xa7, Xeu rok x y (by omega) (by omega), Xad, et, Xad, ez, Xad, Xad]
  cases z with
  | true => exact ⟨_, rfl, Yhi, (fun h => by cases h), by simp, by simp⟩
  | false =>
   obtain ⟨b, eb, b1, b2⟩ := Xvn (r := r) rok hw hr hx hy h0r
   rw [Xa7, ee, Xad, em, Xad, Bool.not_false, Xa8, eb, Xad]
   by_cases hcost : b.2.2 ≤ cost
   ·
    obtain ⟨t, et, t1, t2⟩ := Xk7 w _ hw (Xlz ref (x + b.1) (y + b.2.1))
    obtain ⟨u, eu, hu⟩ := Xm0 t c hc t1 t2
    have hul := (Yl7 hu).1
    obtain ⟨z, ez⟩ := Xor u (by omega)
    rw [Xa6 hcost, wkA (e := x + b.1), wkA (e := y + b.2.1), Xeu rok _ _ (by omega) (by omega), Xad, et, Xad, eu, Xad, ez, Xad, Xcy, Xcy, Xad]
    cases (b.1 == 0 && (b.2.1 == 0 && z)) with
    | true => exact ⟨_, rfl, Yhi, (fun h => by cases h), by simp, by simp⟩
    | false => exact ⟨_, rfl, Ymy (by omega) (by omega) hu, (fun h => by cases h), b1, b2⟩
   ·
    rw [Xax hcost, eg, Xad, el, Xad, ev, Xad]
    exact ⟨_, rfl, Yef ⟨m1, m2⟩ hv, (fun h => by cases h), by simp, by simp⟩
theorem Xsi {now ref : Pic} {x y : Int} {c : Xly} {q : Xba} (ok : Xef now = true) (hx : x.tmod 8 = 0) (hy : y.tmod 8 = 0) (h0 : Xhn now x y = true) (hc : Xph c = true) (hq : Xu9 q = true) (hd : (-4 ≤ q.Dx ∧ q.Dx ≤ 4) ∧ (-4 ≤ q.Dy ∧ q.Dy ≤ 4))
  (hk : q.Kind ≠ 2 → c.Key = false ∧ Xef ref = true) : ∃ d, Xe4 now ref 0 0 c x y q = some (d, true) ∧ Xdy d = true := by
 obtain ⟨k1, k2, k3⟩ := Xcx ok
 have h0' := h0
 unfold Xhn at h0'
 rw [decide_eq_true_eq] at h0'
 unfold Xe4
 rw [Xgr ok hx hy h0, Xad, Xa8, Xaj, Xad, decide_eq_true (by omega), Xa8, Xad, Xa8, Xwh, Xad, hq, Xa8, Xfz, Xad, hc, Bool.not_true, Xad, Xa7]
 by_cases h2 : q.Kind = 2
 ·
  obtain ⟨hm, hl⟩ := Yfu hq h2
  obtain ⟨e, ee, he⟩ := Xnv ok hx hy h0
  obtain ⟨b, eb, b1, b2⟩ := Xlk q.Levels c hc hl
  obtain ⟨g, eg, hg⟩ := Xkn q.Mode hm he
  obtain ⟨j, ej, hj⟩ := Xpm g b hg b1 b2
  rw [Xbi (by simpa using h2), ee, Xad, eb, Xad, eg, Xad, ej, Xad]
  exact ⟨j, rfl, hj⟩
 ·
  obtain ⟨hK, rok⟩ := hk h2
  rw [Xbb (by simpa using h2), hK, Xa7, Xb5, Xad, rok, Bool.not_true, Xad, Xa7, wkA (e := 0 + x), wkA (e := 0 + x + q.Dx), wkA (e := 0 + y), wkA (e := 0 + y + q.Dy), Xeu rok _ _ (by omega) (by omega), Xad]
  by_cases h3 : q.Kind = 0
  ·
   rw [Xbi (by simpa using h3)]
   exact ⟨_, rfl, Xlz _ _ _⟩
  ·
   have h1 : q.Kind = 1 := by have := Ybr hq; omega
   obtain ⟨_, _, hl⟩ := Yft hq h1
   obtain ⟨b, eb, b1, b2⟩ := Xlk q.Levels c hc hl
   obtain ⟨j, ej, hj⟩ := Xpm _ b (Xlz ref (0 + x + q.Dx) (0 + y + q.Dy)) b1 b2
   rw [Xbb (by simpa using h3), eb, Xad, ej, Xad]
   exact ⟨j, rfl, hj⟩
def Ygq (p q : Pic) : Bool := Xef p && (Xef q && ((p.Wide == q.Wide) && (p.High == q.High)))
theorem Xop (p q : Pic) : Xfi p q = some (Ygq p q) := by
 unfold Xfi Ygq
 rw [Xb5, Xad, Xb5, Xad]
 simp only [Xcy, Xad]
theorem Yh7 {p q : Pic} (h : Ygq p q = true) : Xef q = true ∧ q.Wide = p.Wide ∧ q.High = p.High := by
 unfold Ygq at h
 simp only [Bool.and_eq_true, beq_iff_eq] at h
 exact ⟨h.2.1, h.2.2.1.symm, h.2.2.2.symm⟩
theorem Yn7 {p q : Pic} (h1 : Xef p = true) (h2 : Xef q = true) (h3 : q.Wide = p.Wide) (h4 : q.High = p.High) : Ygq p q = true := by
 unfold Ygq
 simp only [Bool.and_eq_true, beq_iff_eq]
 exact ⟨h1, h2, h3.symm, h4.symm⟩
theorem Xuc {now ref : Pic} {w : List Int} {x y r : Int} {c : Xly} (ok : Xef now = true) (hx : x.tmod 8 = 0) (hy : y.tmod 8 = 0) (h0 : Xhn now x y = true) (hw : Xdy w = true) (hc : Xph c = true) (hr : 0 ≤ r ∧ r ≤ 4)
  (hk : c.Key = false → Xef ref = true ∧ ref.Wide = now.Wide ∧ ref.High = now.High) : ∃ q d, Xf6 now ref w x y c r = some (q, d, true) ∧ Xu9 q = true ∧ Xdy d = true ∧ (c.Key = true → q.Kind = 2) := by
 obtain ⟨q, eq, q1, q2, q3⟩ := Xuu ok hx hy h0 hw hc hr hk
 obtain ⟨d, ed, hd⟩ := Xsi (ref := ref) ok hx hy h0 hc q1 q3 (fun h => by
  cases hK : c.Key with
  | true => exact absurd (q2 hK) h
  | false => exact ⟨rfl, (hk hK).1⟩)
 unfold Xf6
 have hl : sel c.Key (some false) (bnd (Xfi now ref) fun q6 => some (!q6)) = some false := by
  cases hK : c.Key with
  | true => rfl
  | false =>
   obtain ⟨a1, a2, a3⟩ := hk hK
   rw [Xa7, Xop, Xad, Yn7 ok a1 a2 a3]; rfl
 rw [Xgr ok hx hy h0, Xad, Xa8, Xgq w hw, Xad, Xa8, Xfz, Xad, hc, Xa8, Xaj, Xad, decide_eq_true hr, Xa8, hl, Xad, Xa7, eq, Xad, ed, Xad]
 exact ⟨q, d, rfl, q1, hd, q2⟩
theorem Ydp {p : Pic} {x y : Int} {d : List Int} (ok : Xef p = true) (h0 : Xhn p x y = true) (hd : Xdy d = true) : ∃ p', Xk4 p x y d = some p' ∧ Xef p' = true ∧ p'.Wide = p.Wide ∧ p'.High = p.High := by
 have hm : maxLen = 9223372036854775807 := rfl
 obtain ⟨k1, k2, k3⟩ := Xcx ok
 have ar := Xka k1 k2
 unfold Xhn at h0
 rw [decide_eq_true_eq] at h0
 have hdl := (Xhl hd).1
 have hn := Xav p.Dots
 unfold Xk4
 rw [rqA]
 obtain ⟨o, e, o1⟩ := Xdx (f := Xgd p x y d) 64 (fun _ s => s.length = p.Dots.size) (by
  intro i s hi g1
  have b1 : 0 ≤ (y + (i : Int) / 8) * p.Wide := Int.mul_nonneg (by omega) (by omega)
  have b2 : (y + (i : Int) / 8) * p.Wide ≤ (p.High - 1) * p.Wide := Int.mul_le_mul_of_nonneg_right (by omega) (by omega)
  have b3 : (p.High - 1) * p.Wide = p.Wide * p.High - p.Wide := by rw [Int.sub_mul, Int.one_mul, Int.mul_comm]
  unfold Xgd
  simp only
  rw [syA, rqA, rqA, rqA, Xb0 (by omega), Xbw (by omega), wkA (e := (i : Int) / 8), wkA (e := y + (i : Int) / 8), wkA (e := (y + (i : Int) / 8) * p.Wide), wkA (e := (y + (i : Int) / 8) * p.Wide + x), wkA (e := (y + (i : Int) / 8) * p.Wide + x + (i : Int) % 8), rqA, rqA, wkA (e := (i : Int) + 1)]
  exact ⟨_, rfl, by rw [List.length_set]; exact g1⟩) (by intro s; unfold Xgd; rw [Xax (by simp)]) (Xal p.Dots) hn
 refine ⟨_, (Xel e).trans rfl, Xyb k1 k2 ?_, rfl, rfl⟩
 simp only
 rw [strOfNums_size]; omega
theorem Yhh (w h : Int) (hw : 1 ≤ w ∧ w ≤ 256) (hh : 1 ≤ h ∧ h ≤ 256) : ∃ p, Xn0 w h = some p ∧ Xef p = true ∧ p.Wide = w ∧ p.High = h := by
 have ar := Xka hw hh
 unfold Xn0
 rw [Xaj, Xad, decide_eq_true hw, Xa8, Xaj, Xad, decide_eq_true hh, Bool.not_true, Xad, Xa7, wkA (e := w * h), show w * h = (((w * h).toNat : Nat) : Int) by omega, Xn6 _ _ (by omega), Xad]
 refine ⟨_, rfl, Xyb hw hh ?_, rfl, rfl⟩
 simp only
 rw [strOfNums_size, List.length_replicate]; omega
def Ymt (n : Int) : Bool := decide (n.tmod 8 = 0) && decide (8 ≤ n ∧ n ≤ 64)
theorem Xon (n : Int) : Xhi n = some (Ymt n) := by
 unfold Xhi Ymt
 rw [rqA, Xaj, Xad, Xcy, Xad, Yle]
theorem Yaq (src ref : Pic) (c : Xly) (r : Int) : ∃ l p b, Xjk src ref c r = some (l, p, b) ∧ l.length ≤ 64 ∧ (∀ s ∈ l, Xu9 s = true) := by
 have hm : maxLen = 9223372036854775807 := rfl
 unfold Xjk
 rw [Xb5, Xad, Xon, Xad, Xon, Xad, Xfz, Xad, Xaj, Xad, Xop, Xad, Yoj]
 simp only [Xlo, Xad]
 cases hchk : (!Xef src || (!Ymt src.Wide || (!Ymt src.High || (!Xph c || (!decide (0 ≤ r ∧ r ≤ 4) || (!c.Key && !Ygq src ref)))))) with
 | true => exact ⟨_, _, _, rfl, by simp, fun s hs => by simp at hs⟩
 | false =>
  simp only [Bool.or_eq_false_iff, Bool.not_eq_false', decide_eq_true_eq] at hchk
  obtain ⟨ok, sw, sh, hc, hr, hlike⟩ := hchk
  have hk : c.Key = false → Ygq src ref = true := by
   intro hK
   rw [hK] at hlike
   simpa using hlike
  obtain ⟨k1, k2, k3⟩ := Xcx ok
  unfold Ymt at sw sh
  rw [Bool.and_eq_true, decide_eq_true_eq, decide_eq_true_eq, Xbw (by omega)] at sw sh
  obtain ⟨g, eg, g1, g2, g3⟩ := Yhh src.Wide src.High k1 k2
  rw [Xa7, eg, Xad]
  obtain ⟨o, e, o1, o2⟩ := Xgh (f := Xgn src ref c r)
   (fun v => 0 ≤ v.1 ∧ v.1 ≤ src.High ∧ v.1 % 8 = 0 ∧ (v.2.1.length : Int) ≤ v.1 ∧ (∀ s ∈ v.2.1, Xu9 s = true) ∧ Xef ⟨v.2.2.1, v.2.2.2.1, v.2.2.2.2⟩ = true ∧ v.2.2.1 = src.Wide ∧ v.2.2.2.1 = src.High) (fun v => (src.High - v.1).toNat) (fun _ o => (o.1.length : Int) ≤ 64 ∧ ∀ s ∈ o.1, Xu9 s = true) (by
   intro ⟨y, sq, w, h, dt⟩ ⟨f1, f2, f3, f4, f5, f6, f7, f8⟩
   simp only at f1 f2 f3 f4 f5 f6 f7 f8
   unfold Xgn
   simp only
   by_cases hy : y < src.High
   ·
    rw [Xa6 hy]
    obtain ⟨o, e, o1, o2, o3, o4, o5⟩ := Xgh (f := Xgo src ref c r (y, sq, w, h, dt))
     (fun v => 0 ≤ v.1 ∧ v.1 ≤ src.Wide ∧ v.1 % 8 = 0 ∧ 8 * ((v.2.1.length : Int) - sq.length) ≤ v.1 ∧ (∀ s ∈ v.2.1, Xu9 s = true) ∧ Xef ⟨v.2.2.1, v.2.2.2.1, v.2.2.2.2⟩ = true ∧ v.2.2.1 = src.Wide ∧ v.2.2.2.1 = src.High) (fun v => (src.Wide - v.1).toNat)
     (fun _ o => (o.1.length : Int) ≤ y + 8 ∧ (∀ s ∈ o.1, Xu9 s = true) ∧ Xef ⟨o.2.1, o.2.2.1, o.2.2.2⟩ = true ∧ o.2.1 = src.Wide ∧ o.2.2.1 = src.High) (by
     intro ⟨x, sq2, w2, h2, dt2⟩ ⟨e1, e2, e3, e4, e5, e6, e7, e8⟩
     simp only at e1 e2 e3 e4 e5 e6 e7 e8
     unfold Xgo
     simp only
     by_cases hx : x < src.Wide
     ·
      have held : Xhn (⟨w2, h2, dt2⟩ : Pic) x y = true := by unfold Xhn; rw [decide_eq_true_eq]; simp only; omega
      obtain ⟨q, d, eq, q1, q2, _⟩ := Xuc (now := (⟨w2, h2, dt2⟩ : Pic)) (ref := ref) (w := Yk3 src x y 64) (r := r) (c := c) e6 (by rw [Xbw e1]; exact e3) (by rw [Xbw f1]; exact f3) held (Xlz _ _ _) hc hr (fun hK => by
       obtain ⟨a1, a2, a3⟩ := Yh7 (hk hK)
       exact ⟨a1, by simp only; omega, by simp only; omega⟩)
      obtain ⟨p', ep, p1, p2, p3⟩ := Ydp e6 held q2
      rw [Xa6 hx, Xeu ok x y (by omega) (by omega), Xad, eq, Xad]
      simp only
      rw [Xa3 (by simp only [List.length_singleton]; omega), ep, Xad, wkA (e := x + 8)]
      refine .inr ⟨_, rfl, ⟨by simp only; omega, by simp only; omega, by simp only; omega, by simp only [List.length_append, List.length_singleton]; omega, ?_, p1, ?_, ?_⟩, by simp only; omega, fun _ h => h⟩
      ·
       intro s hs
       rcases List.mem_append.1 hs with hs | hs
       ·
        exact e5 s hs
       ·
        rw [List.mem_singleton.1 hs]; exact q1
      ·
       simp only at p2 ⊢; rw [p2]; exact e7
      ·
       simp only at p3 ⊢; rw [p3]; exact e8
     ·
      rw [Xax hx]
      exact .inl ⟨_, rfl, by simp only; omega, e5, e6, e7, e8⟩) (0, sq, w, h, dt) ⟨by simp, by simp only; omega, by simp, by simp, f5, f6, f7, f8⟩
    rw [e, Xad, wkA (e := y + 8)]
    exact .inr ⟨_, rfl, ⟨by simp only; omega, by simp only; omega, by simp only; omega, o1, o2, o3, o4, o5⟩, by simp only; omega, fun _ h => h⟩
   ·
    rw [Xax hy]
    exact .inl ⟨_, rfl, by simp only; omega, f5⟩) (0, [], g.Wide, g.High, g.Dots) ⟨by simp, by simp only; omega, by simp, by simp, fun s hs => by simp at hs, g1, g2, g3⟩
  rw [e, Xad]
  exact ⟨_, _, _, rfl, by omega, o2⟩
theorem Yip (l : List Xba) (c : Xly) (h : ∀ s ∈ l, Xu9 s = true) : (Xp0 l c).length ≤ 5265 * l.length := by
 induction l with
 | nil => simp [Xp0]
 | cons s r ih =>
  have h1 := Ymx (c := c) (h s (List.mem_cons_self))
  have h2 := ih (fun x hx => h x (List.mem_cons_of_mem _ hx))
  rw [Xp0, List.length_append, List.length_cons]; omega
theorem Ydr (l : List Xba) (c : Xly) (hs : ∀ s ∈ l, Xu9 s = true) (hl : l.length ≤ 64) : Xk5 l c = some (strOfNums (Xp0 l c)) := by
 have hm : maxLen = 9223372036854775807 := rfl
 have kr : ∀ (r a : List Xba) (t : List Int), l = a ++ r → t.length ≤ 5265 * a.length → loop (Xge l c) ((a.length : Int), t) = some (t ++ Xp0 r c) := by
  intro r
  induction r with
  | nil =>
   intro a t ha _
   rw [List.append_nil] at ha
   exact Xgx (by unfold Xge; simp only; rw [Xax (by rw [ha]; omega), Xp0, List.append_nil])
  | cons s r ih =>
   intro a t ha ht
   have hlen : a.length < l.length := by rw [ha]; simp
   have hx : l.getD a.length Xp3 = s := by rw [ha]; exact Xow a s _ r
   have hok : Xu9 s = true := hs s (by rw [ha]; simp)
   have g := Ymx (c := c) hok
   have hn := ih (a ++ [s]) (t ++ sqL s c) (by rw [ha]; simp) (by simp only [List.length_append, List.length_singleton]; omega)
   rw [List.length_append, List.length_singleton] at hn
   rw [Xp0, ← List.append_assoc, ← hn]
   refine Xjx ?_
   unfold Xge
   simp only [Int.toNat_natCast, hx]
   rw [syA, rqA, show (⟨s.Kind, s.Mode, s.Dx, s.Dy, s.Levels⟩ : Xba) = s from rfl, Ydn s c hok, Xad, Xx9 _ (Xyk (Ymw _ _)), rqA, wkA]
   rfl
 unfold Xk5
 exact Xel (kr l [] [] rfl (by simp))
theorem Xv7 (r : Rate) (n : Int) : ∃ r', Xhz r n = some r' := by
 unfold Xhz
 simp only [Xlr, Xcf, Xad, Xzn]
 exact ⟨_, rfl⟩
theorem Yfo (r : Rate) (k : Bool) : ∃ q, Xmc r k = some q := by
 unfold Xmc
 simp only [Xlr, Xcf, Xad, Xzn]
 exact ⟨_, rfl⟩
theorem Ycm (s : Xcm) (b : Bool) (hb : (Lit.int .i64 s.Seq.Bits).wf = true) : ∃ k, Xko s b = some k := by
 unfold Xko
 simp only [Xgm s hb, Xad, Xzn]
 exact ⟨_, rfl⟩
theorem Yix {b : Int} (h : 3 ≤ b ∧ b ≤ 8) : Xaa .u64 b = b := by
 rcases (show b = 3 ∨ b = 4 ∨ b = 5 ∨ b = 6 ∨ b = 7 ∨ b = 8 by omega) with rfl | rfl | rfl | rfl | rfl | rfl <;> decide
theorem Xz2 (s : Seq) (p : Par) (f q : Int) (hs : Xkj s = true) (hf : 0 ≤ f ∧ f ≤ 1000000) : ∃ l b, Xjg s p ⟨0, f, q⟩ = some (strOfNums l, b) ∧ Xp2 l ∧ l.length ≤ 200 := by
 obtain ⟨_, _, b3, b8⟩ := Xgz hs
 have hb := Yix ⟨b3, b8⟩
 unfold Xjg Xmu
 simp only [Xr6, Xn4, Xaj, hb, Xad]
 rw [rqA]
 simp only [Xcy, Xad]
 cases hc : (Xrl p && (decide ((0 : Int) ≥ 0) && (decide (0 < Xos s) && (decide (f ≥ 0) && (decide (f < Xaa IntKind.i64 (1 * 2 ^ min s.Bits.toNat (IntKind.bits IntKind.i64))) && decide (0 ≤ q ∧ q ≤ 40)))))) with
 | false => exact ⟨[], false, rfl, Xk9, by simp⟩
 | true =>
  simp only [Bool.and_eq_true, decide_eq_true_eq] at hc
  have pq := Yjt hc.1
  have q0 := hc.2.2.2.2.2
  have u := Xeg 0 (by omega)
  have z := Xqf (q - p.Qp) (by omega)
  rw [Bool.not_true, Xa7, show (0 : Int) = ((0 : Nat) : Int) from rfl, Xbv 0 (by omega), Xad, show s.Bits = ((s.Bits.toNat : Nat) : Int) by omega, Xlx f _ hf.1 (by omega) (by omega), Xad, wkA (e := q - p.Qp)]
  have fl := Xi3 s.Bits.toNat f
  rw [Xa3 (by simp only [strOfNums_size]; omega), Xh6 _ (by omega), Xad, Xa5, Xa3 (by simp only [strOfNums_size, List.length_append]; omega), Xa5]
  exact ⟨_, true, rfl, Xa1 (Xa1 (Xj1 _) (Xx4 _ _)) (Xj1 _), by simp only [List.length_append]; omega⟩
theorem Yb9 (s : Xcm) : (Xl8 s).length ≤ 2 ∧ ∀ u ∈ Xl8 s, u.size ≤ 1000000 := by
 unfold Xl8
 split
 ·
  rename_i h
  obtain ⟨h1, h2⟩ := Xlp h
  have a := Yj3 h1
  have b := Yjs s.Par
  refine ⟨by simp, fun u hu => ?_⟩
  simp only [List.mem_cons, List.not_mem_nil, or_false] at hu
  rcases hu with rfl | rfl
  ·
   rw [strOfNums_size, List.length_cons, Xya]; omega
  ·
   rw [strOfNums_size, List.length_cons, Xya]; omega
 ·
  exact ⟨by simp, fun u hu => by simp at hu⟩
theorem Xoa (s : Seq) (h1 : s.Cols.length ≤ 1000) (h2 : s.Rows.length ≤ 1000) : Xhc s = some s := by
 have hm : maxLen = 9223372036854775807 := rfl
 unfold Xhc
 rw [Xa3 (by simp only [List.length_nil]; omega), Xa3 (by simp only [List.length_nil]; omega)]
 rfl
theorem Xsg (s : Xcm) (p : Pic) (want : Bool) (h1 : s.Seq.Cols.length ≤ 1000) (h2 : s.Seq.Rows.length ≤ 1000) (hb : (Lit.int .i64 s.Seq.Bits).wf = true) :
  ∃ s' us ok, Xe3 s p want = some (s', us, ok) ∧ s'.Seq = s.Seq ∧ us.length ≤ 3 ∧ ∀ u ∈ us, u.size ≤ 1000000 := by
 have hm : maxLen = 9223372036854775807 := rfl
 obtain ⟨k, ek⟩ := Ycm s want hb
 unfold Xe3
 rw [Xlt, Xad, ek, Xad, Xgm s hb, Xad, Xb5, Xad]
 have hv : ∃ b, (sel (Xgj s) (sel (Xef p) (sel (p.Wide != (Xqg s.Seq).1) (some true) (sel (p.High != (Xqg s.Seq).2) (some true) (sel k (some false) (some (decide (s.Since ≥ 1000)))))) (some true)) (some true)) = some b ∧ (b = false → Xgj s = true) := by
  cases hs : Xgj s with
  | false => exact ⟨true, rfl, fun h => by cases h⟩
  | true =>
   rw [Xa8]
   simp only [Xzn]
   exact ⟨_, rfl, fun _ => trivial⟩
 obtain ⟨b, eb, hbf⟩ := hv
 rw [eb, Xad]
 cases b with
 | true =>
  rw [Xa8, Xoa _ h1 h2, Xad]
  exact ⟨_, _, _, rfl, rfl, by simp, (fun u hu => by simp at hu)⟩
 | false =>
  have ok := hbf rfl
  obtain ⟨so, _⟩ := Xlp ok
  obtain ⟨_, _, b3, b8⟩ := Xgz so
  have bp := Yiw ⟨b3, b8⟩
  have hfr : 0 ≤ s.Frame ∧ s.Frame ≤ 1000000 := by
   unfold Xgj at ok
   simp only [Bool.and_eq_true, decide_eq_true_eq] at ok
   have := ok.1.1.2
   omega
  obtain ⟨q, eq⟩ := Yfo s.Rate k
  obtain ⟨l, p', tb, et, t1, t2⟩ := Yaq p s.Ref ⟨k, q, s.Par.Large, s.Par.Exact⟩ s.Reach
  obtain ⟨hl, hbb, eh, e1, e2⟩ := Xz2 s.Seq s.Par s.Frame q so hfr
  have tl := Yip l ⟨k, q, s.Par.Large, s.Par.Exact⟩ t2
  rw [Xa7, eq, Xad, et, Xad, eh, Xad]
  simp only
  rw [Ydr l _ t2 t1, Xad, Xa3 (by simp only [strOfNums_size]; omega), Xa5]
  have hk : ∃ kd us, (sel k (bnd (Xdd s) fun q12 => some ((5 : Int), q12)) (some (1, ([] : List ByteArray)))) = some (kd, us) ∧ Yd5 kd = true ∧ us.length ≤ 2 ∧ ∀ u ∈ us, u.size ≤ 1000000 := by
   cases k with
   | true =>
    have := Yb9 s
    rw [Xa8, Xse s hb, Xad]
    exact ⟨5, _, rfl, rfl, this.1, this.2⟩
   | false => exact ⟨1, [], rfl, rfl, by simp, fun u hu => by simp at hu⟩
  obtain ⟨kd, us, ekd, kd1, us1, us2⟩ := hk
  rw [ekd, Xad]
  simp only
  rw [Xlv kd _ kd1 (Xa1 e1 (Yeh _ _)) (by rw [List.length_append]; omega), Xad, Xa3 (by simp only [List.length_singleton]; omega), Xoa _ h1 h2, Xad]
  obtain ⟨r', er⟩ := Xv7 s.Rate ((strOfNums (hl ++ Xp0 l ⟨k, q, s.Par.Large, s.Par.Exact⟩)).size : Int)
  rw [er, Xad, Yix ⟨b3, b8⟩, rqA, bp.1, Int.one_mul, wkA (e := 2 ^ s.Seq.Bits.toNat), rqA, Xzn, Xad]
  refine ⟨_, _, _, rfl, rfl, by simp; omega, fun u hu => ?_⟩
  rcases List.mem_append.1 hu with hu | hu
  ·
   exact us2 u hu
  ·
   rw [List.mem_singleton.1 hu]
   simp only
   rw [strOfNums_size, List.length_cons, Xya, List.length_append]; omega
theorem Xq0 (c : Xaw) (hc : Xc1 c) : ∃ p c', Xd4 c = some (p, c') ∧ Xrl p = true ∧ Xc1 c' := by
 unfold Xd4
 obtain ⟨x, c1, e1, x0, x1, _, h1⟩ := Xar c 41 hc
 obtain ⟨b, c2, e2, h2⟩ := Xdg c1 4 h1
 obtain ⟨y, c3, e3, y0, y1, _, h3⟩ := Xar c2 3 h2
 have x1' := x1 (by omega)
 rw [e1, Xad]
 simp only
 rw [e2, Xad]
 simp only
 rw [e3, Xad]
 simp only
 have po : ∀ (l e f : Bool), (l && e) = false → Xrl ⟨x, l, e, f⟩ = true := by
  intro l e f h
  unfold Xrl
  rw [Bool.and_eq_true, decide_eq_true_eq]
  exact ⟨by simp only; omega, by simp only [h]; rfl⟩
 cases (y == 0) with
 | true => exact ⟨_, _, rfl, po _ _ _ rfl, h3⟩
 | false =>
  cases (y == 1) with
  | true => exact ⟨_, _, rfl, po _ _ _ rfl, h3⟩
  | false => exact ⟨_, _, rfl, po _ _ _ rfl, h3⟩
theorem Yl9 : ∀ c r b : Int, (c = 1 ∨ c = 2) → (r = 1 ∨ r = 2) → (b = 3 ∨ b = 4 ∨ b = 5) → Xos ⟨Xmp [c] [r], b, [c], [r]⟩ = 1 ∧ Xqg ⟨Xmp [c] [r], b, [c], [r]⟩ = (8 * c, 8 * r) := by
 intro c r b hc hr hb
 rcases hc with rfl | rfl <;> rcases hr with rfl | rfl <;> rcases hb with rfl | rfl | rfl <;> decide +kernel
theorem Ye3 (c r b : Int) (p : Par) (t : Rate) (e n : Int) (hc : c = 1 ∨ c = 2) (hr : r = 1 ∨ r = 2) (hb : b = 3 ∨ b = 4 ∨ b = 5) (hp : Xrl p = true) (ht : Xro t = true) (he : 1 ≤ e ∧ e ≤ 5) (hn : 0 ≤ n ∧ n ≤ 2) : Xgj (Xkb c r b p t e n) = true := by
 have hm := (Yl9 c r b hc hr hb).1
 have hpow : (0 : Int) < 2 ^ b.toNat := by rcases hb with rfl | rfl | rfl <;> decide
 unfold Xgj Xkb
 simp only
 rw [decide_eq_true hm, hp, ht, decide_eq_true ⟨by omega, hpow⟩, decide_eq_true (by omega)]
 rfl
theorem Xt8 (c r b : Int) (p : Par) (t : Rate) (e n : Int) (hc : c = 1 ∨ c = 2) (hr : r = 1 ∨ r = 2) (hb : b = 3 ∨ b = 4 ∨ b = 5) (hp : Xrl p = true) (ht : Xro t = true) (he : 1 ≤ e ∧ e ≤ 5) (hn : 0 ≤ n ∧ n ≤ 2) : Xf5 c r b p t e n = some (Xkb c r b p t e n, true) := by
 have hs := Ye3 c r b p t e n hc hr hb hp ht he hn
 have hw : (Lit.int .i64 b).wf = true := by rcases hb with rfl | rfl | rfl <;> decide
 unfold Xf5
 rw [Xv5, Xad]
 have := Xgm (Xkb c r b p t e n) hw
 unfold Xkb at this hs ⊢
 rw [this, hs, Xad]
 rfl
theorem Xxz (c : Xaw) (hc : Xc1 c) : ∃ s us c', Xfr c = some (s, us, c') ∧ us.length ≤ 12 ∧ (∀ u ∈ us, u.size ≤ 1000000) ∧ Xc1 c' := by
 have hm : maxLen = 9223372036854775807 := rfl
 unfold Xfr
 obtain ⟨x1, c1, e1, a1, b1, _, h1⟩ := Xar c 2 hc
 obtain ⟨x2, c2, e2, a2, b2, _, h2⟩ := Xar c1 2 h1
 obtain ⟨x3, c3, e3, a3, b3, _, h3⟩ := Xar c2 3 h2
 obtain ⟨p, c4, e4, hp, h4⟩ := Xq0 c3 h3
 obtain ⟨t, c5, e5, ht, h5⟩ := Xxx c4 h4
 obtain ⟨x6, c6, e6, a6, b6, _, h6⟩ := Xar c5 5 h5
 obtain ⟨x7, c7, e7, a7, b7, _, h7⟩ := Xar c6 3 h6
 have b1' := b1 (by omega)
 have b2' := b2 (by omega)
 have b3' := b3 (by omega)
 have b6' := b6 (by omega)
 have b7' := b7 (by omega)
 rw [e1, Xad]
 simp only
 rw [e2, Xad]
 simp only
 rw [e3, Xad]
 simp only
 rw [e4, Xad]
 simp only
 rw [e5, Xad]
 simp only
 rw [e6, Xad]
 simp only
 rw [e7, Xad]
 simp only
 rw [wkA (e := 1 + x1), wkA (e := 1 + x2), wkA (e := 3 + x3), wkA (e := 1 + x6), Xt8 (1 + x1) (1 + x2) (3 + x3) p t (1 + x6) x7 (by omega) (by omega) (by omega) hp ht (by omega) (by omega), Xad]
 have hsz := (Yl9 (1 + x1) (1 + x2) (3 + x3) (by omega) (by omega) (by omega)).2
 have hwf : (Lit.int .i64 (3 + x3)).wf = true := by
  obtain rfl | rfl | rfl : x3 = 0 ∨ x3 = 1 ∨ x3 = 2 := by omega
  all_goals decide
 unfold Xkb
 simp only
 rw [Xlt, Xad, hsz]
 simp only
 obtain ⟨pic, c8, e8, pw, ph, pok, h8⟩ := Xxl c7 (8 * (1 + x1)) (8 * (1 + x2)) h7 (by omega) (by omega)
 rw [e8, Xad]
 simp only
 obtain ⟨o, eo, ho⟩ := Xgh (f := Xgs)
  (fun (i, b, j, h, lev, bits, pq, pl, pe, pc, rq, rt, rd, fr, si, ev, re, ha, rw, rh, rdots, us, w, hh, dd, co, ro) => (0 ≤ i ∧ i ≤ 4) ∧ Xc1 ⟨b, j, h⟩ ∧ co.length ≤ 1000 ∧ ro.length ≤ 1000 ∧ (Lit.int .i64 bits).wf = true ∧ (us.length : Int) ≤ 3 * i ∧ (∀ u ∈ us, u.size ≤ 1000000) ∧ Xef ⟨w, hh, dd⟩ = true)
  (fun v => (4 - v.1).toNat)
  (fun _ (lev, bits, pq, pl, pe, pc, rq, rt, rd, fr, si, ev, re, ha, rw, rh, rdots, us, b, j, h, co, ro) => us.length ≤ 12 ∧ (∀ u ∈ us, u.size ≤ 1000000) ∧ Xc1 ⟨b, j, h⟩) (by
  intro ⟨i, b, j, h, lev, bits, pq, pl, pe, pc, rq, rt, rd, fr, si, ev, re, ha, rw', rh, rdots, us, w, hh, dd, co, ro⟩ ⟨g1, g2, g3, g4, g5, g6, g7, g8⟩
  unfold Xgs
  simp only
  obtain ⟨x, k1, f1, y0, y1, _, q1⟩ := Xar _ 4 g2
  have y1' := y1 (by omega)
  rw [f1, Xad]
  simp only
  by_cases hi : i < x
  ·
   obtain ⟨z, k2, f2, q2⟩ := Xdg k1 5 q1
   obtain ⟨s', us', ok, f3, s1, s2, s3⟩ := Xsg (⟨(⟨lev, bits, co, ro⟩ : Seq), (⟨pq, pl, pe, pc⟩ : Par), (⟨rq, rt, rd⟩ : Rate), fr, si, ev, re, ha, (⟨rw', rh, rdots⟩ : Pic)⟩ : Xcm) (⟨w, hh, dd⟩ : Pic) z g3 g4 g5
   obtain ⟨p2, k3, f4, p3, p4, p5, q3⟩ := Ybm k2 (⟨w, hh, dd⟩ : Pic) q2 g8
   rw [Xa6 hi, f2, Xad]
   simp only
   rw [f3, Xad]
   simp only
   rw [rqA, f4, Xad, wkA (e := i + 1)]
   simp only at s1
   refine .inr ⟨_, rfl, ⟨by omega, q3, ?_, ?_, ?_, ?_, ?_, p5⟩, by simp only; omega, fun _ h => h⟩
   ·
    simp only [s1]; exact g3
   ·
    simp only [s1]; exact g4
   ·
    simp only [s1]; exact g5
   ·
    rw [List.length_append]; omega
   ·
    intro u hu
    rcases List.mem_append.1 hu with hu | hu
    ·
     exact g7 u hu
    ·
     exact s3 u hu
  ·
   rw [Xax hi]
   exact .inl ⟨_, rfl, by simp only; omega, g7, q1⟩) (0, c8.b_, c8.i_, c8.h_, Xmp [1 + x1] [1 + x2], 3 + x3, p.Qp, p.Large, p.Exact, p.Confined, t.Qp, t.Target, t.Debt, 0, 0, 1 + x6, x7, false, 0, 0, ⟨#[]⟩, [], pic.Wide, pic.High, pic.Dots, [1 + x1], [1 + x2]) ⟨⟨Int.le_refl _, by omega⟩, h8, by simp, by simp, hwf, by simp, (fun u hu => by simp at hu), pok⟩
 obtain ⟨lev, bits, pq, pl, pe, pc, rq, rt, rd, fr, si, ev, re, ha, rw', rh, rdots, us, b, j, h, co, ro⟩ := o
 rw [eo, Xad]
 exact ⟨_, _, _, rfl, ho.1, ho.2.1, ho.2.2⟩
theorem Ya0 (c : Xaw) (hc : Xc1 c) : ∃ s c', Xjl c = some (s, c') ∧ s.size ≤ 1000 ∧ Xc1 c' := by
 have hm : maxLen = 9223372036854775807 := rfl
 unfold Xjl
 obtain ⟨o, e, o1, o2⟩ := Xgh (f := Xh7) (fun v => 0 ≤ v.1 ∧ v.1 ≤ 14 ∧ Xc1 ⟨v.2.1, v.2.2.1, v.2.2.2.1⟩ ∧ (v.2.2.2.2.length : Int) = v.1) (fun v => (14 - v.1).toNat) (fun _ o => Xc1 ⟨o.1, o.2.1, o.2.2.1⟩ ∧ o.2.2.2.length ≤ 14) (by
  intro ⟨i, b, j, h, l⟩ ⟨g1, g2, g3, g4⟩
  unfold Xh7
  simp only at g1 g2 g3 g4 ⊢
  obtain ⟨x, c1, e1, x0, x1, _, h1⟩ := Xar _ 14 g3
  have x1' := x1 (by omega)
  rw [e1, Xad]
  simp only
  by_cases hi : i < x
  ·
   obtain ⟨y, c2, e2, _, h2⟩ := Xh3 c1 [0, 0, 0, 0, 1, 2, 3, 3, 4, 200] h1 (by decide) (by decide)
   rw [Xa6 hi, e2, Xad, Xa3 (by simp only [List.length_singleton]; omega), wkA (e := i + 1)]
   exact .inr ⟨_, rfl, ⟨by simp only; omega, by simp only; omega, h2, by simp; omega⟩, by simp only; omega, fun _ h => h⟩
  ·
   rw [Xax hi]
   exact .inl ⟨_, rfl, h1, by simp only; omega⟩) (0, c.b_, c.i_, c.h_, []) ⟨by simp, by simp, hc, by simp⟩
 rw [e, Xad]
 obtain ⟨b, c1, e1, h1⟩ := Xdg _ 8 o1
 rw [e1, Xad]
 simp only
 cases b with
 | true =>
  rw [Bool.not_true, Xa7, Xad]
  exact ⟨_, _, rfl, by simp only; rw [strOfNums_size]; omega, h1⟩
 | false =>
  obtain ⟨y, c2, e2, _, _, _, h2⟩ := Xar c1 5 h1
  rw [Bool.not_false, Xa8, e2, Xad, Xa3 (by simp only [List.length_singleton]; omega), Xad]
  exact ⟨_, _, rfl, by simp only; rw [strOfNums_size, List.length_append, List.length_singleton]; omega, h2⟩
theorem Xwx (c : Xaw) (hc : Xc1 c) : ∃ us c', Xh8 c = some (us, c') ∧ us.length ≤ 12 ∧ (∀ u ∈ us, u.size ≤ 1000000) ∧ Xc1 c' := by
 have hm : maxLen = 9223372036854775807 := rfl
 unfold Xh8
 obtain ⟨o, e, o1, o2, o3⟩ := Xgh (f := Xgp) (fun v => 0 ≤ v.1 ∧ v.1 ≤ 5 ∧ Xc1 ⟨v.2.1, v.2.2.1, v.2.2.2.1⟩ ∧ (v.2.2.2.2.length : Int) = v.1 ∧ ∀ u ∈ v.2.2.2.2, u.size ≤ 1000000) (fun v => (5 - v.1).toNat) (fun _ o => o.1.length ≤ 12 ∧ (∀ u ∈ o.1, u.size ≤ 1000000) ∧ Xc1 ⟨o.2.1, o.2.2.1, o.2.2.2⟩) (by
  intro ⟨i, b, j, h, l⟩ ⟨g1, g2, g3, g4, g5⟩
  unfold Xgp
  simp only at g1 g2 g3 g4 g5 ⊢
  obtain ⟨x, c1, e1, x0, x1, _, h1⟩ := Xar _ 5 g3
  have x1' := x1 (by omega)
  rw [e1, Xad]
  simp only
  by_cases hi : i < x
  ·
   obtain ⟨s, c2, e2, s1, h2⟩ := Ya0 c1 h1
   rw [Xa6 hi, e2, Xad, Xa3 (by simp only [List.length_singleton]; omega), wkA (e := i + 1)]
   refine .inr ⟨_, rfl, ⟨by simp only; omega, by simp only; omega, h2, by simp; omega, fun u hu => ?_⟩, by simp only; omega, fun _ h => h⟩
   rcases List.mem_append.1 hu with hu | hu
   ·
    exact g5 u hu
   ·
    rw [List.mem_singleton.1 hu]; simp only; omega
  ·
   rw [Xax hi]
   exact .inl ⟨_, rfl, by simp only; omega, g5, h1⟩) (0, c.b_, c.i_, c.h_, []) ⟨by simp, by simp, hc, by simp, (fun u hu => by simp at hu)⟩
 rw [e, Xad]
 exact ⟨_, _, rfl, o1, o2, o3⟩
def Xrn (s : ByteArray) (a : Int) (N m k : Nat) : Xay := ⟨Xft a k, decide (k = 0), decide (k + 1 = m), s.extract (k * N) (min ((k + 1) * N) s.size)⟩
def pkL (s : ByteArray) (a : Int) (N m : Nat) : List Xay := (List.range m).map (Xrn s a N m)
theorem Xza (s : ByteArray) (a : Int) (N m : Nat) : (pkL s a N m).length = m := by simp [pkL]
theorem Yg3 (s : ByteArray) (a : Int) (N m k : Nat) (hk : k < m) : (pkL s a N m).getD k Xa4 = Xrn s a N m k := by
 rw [Xhm _ k (by rw [Xza]; exact hk)]
 simp [pkL]
theorem Xo0 (z N k : Nat) (hN : 1 ≤ N) (hk : k < (z + N - 1) / N) : k * N < z ∧ (k + 1 = (z + N - 1) / N ↔ z ≤ k * N + N) := by
 have h1 : (k + 1) * N ≤ z + N - 1 := (Nat.le_div_iff_mul_le (by omega)).1 hk
 have h2 : (k + 1) * N = k * N + N := Nat.succ_mul k N
 refine ⟨by omega, fun h => ?_, fun h => ?_⟩
 ·
  have h3 : ¬ k + 2 ≤ (z + N - 1) / N := by omega
  rw [Nat.le_div_iff_mul_le (by omega)] at h3
  have h4 : (k + 2) * N = k * N + N + N := by rw [Nat.add_mul]; omega
  omega
 ·
  have h3 : ¬ k + 2 ≤ (z + N - 1) / N := by
   rw [Nat.le_div_iff_mul_le (by omega)]
   have h4 : (k + 2) * N = k * N + N + N := by rw [Nat.add_mul]; omega
   omega
  omega
theorem Ymh (z N : Nat) (hN : 1 ≤ N) : z ≤ (z + N - 1) / N * N := by
 have h3 : ¬ (z + N - 1) / N + 1 ≤ (z + N - 1) / N := by omega
 rw [Nat.le_div_iff_mul_le (by omega), Nat.succ_mul] at h3
 omega
theorem Ymi {f : Int × List Xay → Option (Lp (Int × List Xay) (List Xay))} (s : ByteArray) (a : Int) (N m : Nat) (hs : ∀ (k : Nat) (l : List Xay), k < m → l.length = k → f (((k * N : Nat) : Int), l) = some (.go ((((k + 1) * N : Nat) : Int), l ++ [Xrn s a N m k]))) (he : ∀ l, f (((m * N : Nat) : Int), l) = some (.done l)) : loop f (0, []) = some (pkL s a N m) := by
 have key : ∀ k : Nat, k ≤ m → loop f (((k * N : Nat) : Int), (List.range k).map (Xrn s a N m)) = some (pkL s a N m) := by
  refine Xgv _ (Xgx (he _)) ?_
  intro k hk ih
  refine lgo (hs k _ hk (by simp)) ?_
  rw [List.range_succ, List.map_append] at ih
  exact ih
 have := key 0 (by omega)
 rw [Nat.zero_mul] at this
 exact this
noncomputable def pkV (l : List ByteArray) (a n : Int) : List Xay × Bool := if (0 ≤ a ∧ a ≤ 65535) ∧ (1 ≤ n ∧ n ≤ 400) ∧ (Xla l).2 = true ∧ (Xla l).1.size ≠ 0 ∧ ((Xla l).1.size + n.toNat - 1) / n.toNat ≤ 60 then (pkL (Xla l).1 a n.toNat (((Xla l).1.size + n.toNat - 1) / n.toNat), true) else ([], false)
theorem Yg4 (s : ByteArray) (a : Int) (N k : Nat) (hN : 1 ≤ N) (hk : k < (s.size + N - 1) / N) (q : Int) (hq : q = ((min (k * N + N) s.size : Nat) : Int)) : (⟨Xft a k, (((k * N : Nat) : Int) == 0), (q == (s.size : Int)), s.extract ((k * N : Nat) : Int).toNat q.toNat⟩ : Xay) = Xrn s a N ((s.size + N - 1) / N) k := by
 obtain ⟨f1, f2⟩ := Xo0 s.size N k hN hk
 have e1 : (((k * N : Nat) : Int) == 0) = decide (k = 0) := by
  rw [Bool.eq_iff_iff, beq_iff_eq, decide_eq_true_eq]
  constructor
  ·
   intro h
   rcases Nat.eq_zero_or_pos k with h0 | h0
   ·
    exact h0
   ·
    have := Nat.mul_pos h0 (show 0 < N by omega); omega
  ·
   intro h; rw [h]; simp
 have e2 : (q == (s.size : Int)) = decide (k + 1 = (s.size + N - 1) / N) := by
  rw [Bool.eq_iff_iff, beq_iff_eq, decide_eq_true_eq, f2, hq]
  omega
 unfold Xrn
 rw [e1, e2, hq, Int.toNat_natCast, Int.toNat_natCast, Nat.succ_mul]
theorem Yi2 (z : Nat) (n : Int) (hn : 1 ≤ n ∧ n ≤ 400) (hz : z ≤ 60000) : Xaa .i64 ((Xaa .i64 ((Xaa .i64 ((z : Int) + n)) - 1)).tdiv n) = (((z + n.toNat - 1) / n.toNat : Nat) : Int) := by
 obtain ⟨N, rfl⟩ : ∃ N : Nat, n = N := ⟨n.toNat, by omega⟩
 have h2 : (z + N - 1) / N ≤ z + N - 1 := Nat.div_le_self _ _
 have h3 : (0 : Int) ≤ ((z + N - 1 : Nat) : Int) / (N : Int) := Int.ediv_nonneg (by omega) (by omega)
 rw [wkA (e := (z : Int) + N), wkA (e := (z : Int) + N - 1), Xb0 (by omega), Int.toNat_natCast, show (z : Int) + N - 1 = ((z + N - 1 : Nat) : Int) by omega, ← Int.natCast_ediv, wkA]
theorem Xt2 (l : List ByteArray) (a n : Int) (hl : ∀ u ∈ l, u.size ≤ 9223372036854775807) : Xf3 l a n = some (pkV l a n) := by
 have hm : maxLen = 9223372036854775807 := rfl
 have hz := Xyu l
 unfold Xf3 pkV
 rw [Xaj, Xad, Xaj, Xad, Xlo, Xad]
 by_cases ha : 0 ≤ a ∧ a ≤ 65535
 ·
  by_cases hn : 1 ≤ n ∧ n ≤ 400
  ·
   rw [decide_eq_true ha, decide_eq_true hn, Xbb (by rfl), Ych l hl, Xad]
   generalize Xla l = q at *
   obtain ⟨s, ok⟩ := q
   simp only at hz ⊢
   have cnt := Yi2 s.size n hn hz
   cases ok with
   | false => rw [if_neg (by simp)]; rfl
   | true =>
    rw [Xa8]
    by_cases h0 : s.size = 0
    ·
     rw [Xbi (by simp only [beq_iff_eq]; omega), Xad, Xa8, if_neg (fun h => h.2.2.2.1 h0)]
    ·
     rw [Xbb (by rw [beq_eq_false_iff_ne]; omega), rqA, Xad, cnt]
     by_cases h6 : (s.size + n.toNat - 1) / n.toNat ≤ 60
     ·
      rw [snA, if_pos ⟨ha, hn, rfl, h0, h6⟩]
      obtain ⟨N, rfl⟩ : ∃ N : Nat, n = N := ⟨n.toNat, by omega⟩
      rw [Int.toNat_natCast] at h6 ⊢
      have hN : 1 ≤ N := by omega
      refine (Xel (Ymi (f := Xdb a N (s, true)) s a N ((s.size + N - 1) / N) ?_ ?_)).trans rfl
      ·
       intro k list hk hlen
       have hp := Yg4 s a N k hN hk
       obtain ⟨f1, _⟩ := Xo0 s.size N k hN hk
       have hsucc : (k + 1) * N = k * N + N := Nat.succ_mul k N
       rw [hsucc]
       generalize hT : k * N = T at *
       unfold Xdb
       simp only
       have hq : Xc0 ((T : Int) + (N : Int)) 0 (s.size : Int) = ((min (T + N) s.size : Nat) : Int) := by unfold Xc0; split <;> (try split) <;> omega
       rw [syA, wkA (e := (T : Int) + (N : Int)), Xcf, Xad, Yag, Xad, Xa3 (by rw [hq]; omega), hlen, Xa3 (by simp only [List.length_singleton]; omega), hp _ hq]
       rfl
      ·
       intro list
       have := Ymh s.size N hN
       unfold Xdb
       rw [Xax (by simp only; omega)]
     ·
      rw [syA, if_neg (fun h => h6 h.2.2.2.2)]
  ·
   rw [decide_eq_false hn, Xbi (by simp), if_neg (fun h => hn h.2.1)]
 ·
  rw [decide_eq_false ha, Xbi (by simp), if_neg (fun h => ha h.1)]
theorem Xtf (l : List ByteArray) (a n : Int) (hl : ∀ u ∈ l, u.size ≤ 9223372036854775807) : Xd9 l a n = some (pkV l a n) := by
 have hm : maxLen = 9223372036854775807 := rfl
 have hz := Xyu l
 unfold Xd9 pkV
 rw [Xpj l hl, Xad, Xgg, Xad, Xfw, Xad]
 generalize Xla l = q at *
 obtain ⟨s, ok⟩ := q
 simp only at hz ⊢
 cases ok with
 | false => rw [if_neg (by simp)]; rfl
 | true =>
  rw [Xa8, Yhc]
  by_cases h0 : s.size = 0
  ·
   rw [Xa6 h0, Xad, Xa8, if_neg (fun h => h.2.2.2.1 h0)]
  ·
   rw [Xax h0]
   by_cases ha : 0 ≤ a ∧ a ≤ 65535
   ·
    rw [Xa6 ha]
    by_cases hn : 1 ≤ n ∧ n ≤ 400
    ·
     have cnt := Yi2 s.size n hn hz
     rw [Xa6 hn, rqA, Xad, cnt]
     by_cases h6 : (s.size + n.toNat - 1) / n.toNat ≤ 60
     ·
      rw [snA, if_pos ⟨ha, hn, rfl, h0, h6⟩]
      obtain ⟨N, rfl⟩ : ∃ N : Nat, n = N := ⟨n.toNat, by omega⟩
      rw [Int.toNat_natCast] at h6 ⊢
      have hN : 1 ≤ N := by omega
      refine (Xel (Ymi (f := Xc3 a N (s, true)) s a N ((s.size + N - 1) / N) ?_ ?_)).trans rfl
      ·
       intro k list hk hlen
       have hp := Yg4 s a N k hN hk
       obtain ⟨f1, _⟩ := Xo0 s.size N k hN hk
       have hsucc : (k + 1) * N = k * N + N := Nat.succ_mul k N
       rw [hsucc]
       generalize hT : k * N = T at *
       unfold Xc3
       simp only
       have hq : (if (s.size : Int) < (T : Int) + (N : Int) then (s.size : Int) else (T : Int) + (N : Int)) = ((min (T + N) s.size : Nat) : Int) := by split <;> omega
       rw [syA, wkA (e := (T : Int) + (N : Int)), Xkg, Xad, Xa3 (by rw [hq]; omega), hlen, Xa3 (by simp only [List.length_singleton]; omega), hp _ hq]
       rfl
      ·
       intro list
       have := Ymh s.size N hN
       unfold Xc3
       rw [Xax (by simp only; omega)]
     ·
      rw [syA, if_neg (fun h => h6 h.2.2.2.2)]
    ·
     rw [Xax hn, Xad, Xa8, if_neg (fun h => hn h.2.1)]
   ·
    rw [Xax ha, Xad, Xa8, if_neg (fun h => ha h.1)]
theorem Yoa {s : ByteArray} {q1 : List Int} {v : Int × List ByteArray} {r r' : List ByteArray × Bool} (h : Ynd s q1 v r) (h' : Ynd s q1 v r') : r = r' := by
 obtain ⟨o, h1, h2⟩ := h
 obtain ⟨o', h1', h2'⟩ := h'
 rw [h1] at h1'
 cases h1'
 rw [h2] at h2'
 exact Option.some.inj h2'
theorem Yi9 {l : List ByteArray} {s : ByteArray} (hf : Xla l = (s, true)) : Ynd s (Xej 0 (Xal s)) (0, []) (l, true) := by
 obtain ⟨e1, e2, _, hs⟩ := Xnf l s hf
 have hl := Xav s
 have hlen : (Xej 0 (Xal s)).length ≤ 60000 := by
  have : ∀ (L : List Int) (p : Int), (Xej p L).length ≤ L.length := by
   intro L
   induction L with
   | nil => intro p; simp [Xej]
   | cons c r ih => intro p; have := ih (p + 1); rw [Xej]; split <;> simp <;> omega
  have := this (Xal s) 0
  omega
 have := Yfc l 0 e2
 rw [← e1] at this
 exact Xnk s hs _ _ rfl (by simp; omega) l hf l 0 0 [] e2 (by rw [this]; rfl) (by rw [e1]; rfl) rfl
theorem Yn3 {l l' : List ByteArray} {s : ByteArray} (h : Xla l = (s, true)) (h' : Xla l' = (s, true)) : l = l' := by
 have := Yoa (Yi9 h) (Yi9 h')
 exact (Prod.mk.inj this).1
theorem Yql {l : List ByteArray} {s : ByteArray} (h : Xla l = (s, true)) : uV s = (l, true) := by
 rcases Yqm s with ⟨l', h1, e⟩ | ⟨hn, _⟩
 ·
  rw [e, Yn3 h h1]
 ·
  exact absurd ⟨l, h⟩ hn
theorem Xy8 (a b : ByteArray) : Xal (a ++ b) = Xal a ++ Xal b := by simp [Xal, ByteArray.data_append]
theorem Yhy (s : ByteArray) (i j : Nat) (hij : i ≤ j) : s.extract 0 i ++ s.extract i j = s.extract 0 j := by
 apply Xl6
 rw [Xy8, Xb7, Xb7, Xb7, List.drop_zero, List.drop_zero]
 have : (Xal s).take i = ((Xal s).take j).take i := by rw [List.take_take, Nat.min_eq_left hij]
 rw [this, List.take_append_drop]
theorem Yhx (s : ByteArray) : s.extract 0 s.size = s := by
 apply Xl6
 rw [Xb7, List.drop_zero, List.take_of_length_le (by rw [Xav]; omega)]
theorem Ymf (s : ByteArray) (a : Int) (N k : Nat) (hN : 1 ≤ N ∧ N ≤ 400) (hk : k < (s.size + N - 1) / N) (ha : 0 ≤ a ∧ a ≤ 65535) (m : Nat) : Xlh (Xrn s a N m k) = true := by
 obtain ⟨f1, _⟩ := Xo0 s.size N k hN.1 hk
 rw [Xno]
 unfold Xrn
 simp only
 have hsz : (s.extract (k * N) (min ((k + 1) * N) s.size)).size = min ((k + 1) * N) s.size - k * N := by rw [ByteArray.size_extract]; omega
 rw [hsz, Nat.succ_mul]
 have : 0 ≤ Xft a k ∧ Xft a k ≤ 65535 := by unfold Xft; split <;> omega
 omega
theorem Yko (s : ByteArray) (a : Int) (N : Nat) (l : List ByteArray) (hl : Xla l = (s, true)) (h0 : s.size ≠ 0) (hN : 1 ≤ N ∧ N ≤ 400) (ha : 0 ≤ a ∧ a ≤ 65535) (h6 : (s.size + N - 1) / N ≤ 60) : Xb6 (pkL s a N ((s.size + N - 1) / N)) = some (l, true) := by
 obtain ⟨_, _, _, hs⟩ := Xnf l s hl
 have hend := Ymh s.size N hN.1
 have h1 : 1 ≤ (s.size + N - 1) / N := by
  rcases Nat.eq_zero_or_pos ((s.size + N - 1) / N) with h | h
  ·
   rw [h, Nat.zero_mul] at hend; omega
  ·
   exact h
 have fact := Xo0 s.size N
 have pok := fun k hk m => Ymf s a N k hN hk ha m
 generalize hm : (s.size + N - 1) / N = m at *
 have hlen := Xza s a N m
 have key : ∀ k : Nat, k ≤ m → loop (Xca (pkL s a N m)) (s.extract 0 (min (k * N) s.size), (k : Int)) = some (.out s) := by
  refine Xgv _ ?_ ?_
  ·
   rw [Nat.min_eq_right hend, Yhx]
   exact Xgx (by unfold Xca; rw [Xax (by simp only [hlen]; omega)])
  ·
   intro k hk ih
   obtain ⟨f1, _⟩ := fact k hN.1 hk
   have hat : Ykn (pkL s a N m) (k : Int) = true := by
    unfold Ykn
    rw [Int.toNat_natCast, Yg3 s a N m k hk, hlen, pok k hk m, Bool.true_and]
    have e1 : ((Xrn s a N m k).First == ((k : Int) == 0)) = true := by
     unfold Xrn
     simp only [beq_iff_eq]
     rw [Bool.eq_iff_iff]; simp
    have e2 : ((Xrn s a N m k).Last == ((k : Int) == (m : Int) - 1)) = true := by
     unfold Xrn
     simp only [beq_iff_eq]
     rw [Bool.eq_iff_iff]; simp only [decide_eq_true_eq, beq_iff_eq]; omega
    rw [e1, e2, Bool.true_and, Bool.true_and]
    by_cases hk0 : (k : Int) > 0
    ·
     rw [if_pos hk0, show ((k : Int) - 1).toNat = k - 1 by omega, Yg3 s a N m (k - 1) (by omega), beq_iff_eq]
     unfold Xrn
     simp only
     unfold Xft
     rw [if_pos (by omega), if_pos (by omega), if_pos (by omega)]
     omega
    ·
     rw [if_neg hk0]
   have st := Xrg (pkL s a N m) k (by omega) (by omega) (s.extract 0 (min (k * N) s.size)) (by
    rw [ByteArray.size_extract]
    have : k * N ≤ k * 400 := Nat.mul_le_mul_left k hN.2
    omega)
   rw [if_pos hat, Yg3 s a N m k hk] at st
   have happ : s.extract 0 (min (k * N) s.size) ++ (Xrn s a N m k).Bytes = s.extract 0 (min ((k + 1) * N) s.size) := by
    unfold Xrn
    simp only
    rw [show min (k * N) s.size = k * N by omega, Yhy s (k * N) _ (by rw [Nat.succ_mul]; omega)]
   rw [happ] at st
   exact lgo st ih
 unfold Xb6
 rw [Xfw, Xad, decide_eq_true (by omega), Bool.not_true, Xa7]
 have k0 := key 0 (by omega)
 rw [Nat.zero_mul, Nat.zero_min] at k0
 have e0 : s.extract 0 0 = ⟨#[]⟩ := by apply Xl6; rw [Xb7]; rfl
 rw [e0] at k0
 refine (Xel k0).trans ?_
 simp only
 rw [Xvh s hs, Xad, Yql hl]
 simp only
 have hne : l ≠ [] := by
  have := Yqn s (by omega) (by rw [Yql hl])
  rw [Yql hl] at this
  exact this
 have hz : (((l.length : Nat) : Int) == 0) = false := by
  rw [beq_eq_false_iff_ne]
  intro e
  exact hne (List.eq_nil_of_length_eq_zero (by omega))
 rw [hz, Xa8, Xad, Xa7]
theorem Yie (s : ByteArray) (a : Int) (N m : Nat) (hm : 2 ≤ m ∧ m ≤ 24) : Xb6 ((pkL s a N m).drop 1) = some ([], false) := by
 have hlen := Xza s a N m
 have hd : ((pkL s a N m).drop 1).length = m - 1 := by rw [List.length_drop, hlen]
 have hat : Ykn ((pkL s a N m).drop 1) ((0 : Nat) : Int) = false := by
  have e : ((pkL s a N m).drop 1).getD 0 Xa4 = Xrn s a N m 1 := by
   rw [List.getD_eq_getElem?_getD, List.getElem?_drop, ← List.getD_eq_getElem?_getD, Yg3 s a N m 1 (by omega)]
  unfold Ykn
  rw [Int.toNat_natCast, e]
  have : ((Xrn s a N m 1).First == (((0 : Nat) : Int) == 0)) = false := rfl
  rw [this]
  simp
 have st := Xrg ((pkL s a N m).drop 1) 0 (by omega) (by omega) ⟨#[]⟩ (Nat.zero_le _)
 rw [hat, if_neg (by decide)] at st
 unfold Xb6
 rw [Xfw, Xad, decide_eq_true (by omega), Bool.not_true, Xa7]
 exact (Xel (Xgx st)).trans rfl
theorem Yp0 (x y : Int) (hx : 0 ≤ x ∧ x ≤ 255) (hy : 0 ≤ y ∧ y ≤ 255) : IntKind.wrap .i64 (BitVec.ofInt (IntKind.bits .i64) (x * 256) ||| BitVec.ofInt (IntKind.bits .i64) y).toNat = x * 256 + y := by
 obtain ⟨a, rfl⟩ : ∃ a : Nat, x = a := ⟨x.toNat, by omega⟩
 obtain ⟨b, rfl⟩ : ∃ b : Nat, y = b := ⟨y.toNat, by omega⟩
 have h : (BitVec.ofInt 64 ((a : Int) * 256) ||| BitVec.ofInt 64 (b : Int)).toNat = a * 256 + b := by
  rw [BitVec.toNat_or, BitVec.toNat_ofInt, BitVec.toNat_ofInt]
  have e1 : (((a : Int) * 256) % ((2 ^ 64 : Nat) : Int)).toNat = a * 256 := by omega
  have e2 : ((b : Int) % ((2 ^ 64 : Nat) : Int)).toNat = b := by omega
  rw [e1, e2]
  have := Nat.two_pow_add_eq_or_of_lt (i := 8) (b := b) (by omega) a
  rw [show 2 ^ 8 * a = a * 256 by omega] at this
  exact this.symm
 show IntKind.wrap .i64 ((BitVec.ofInt 64 ((a : Int) * 256) ||| BitVec.ofInt 64 (b : Int)).toNat : Int) = _
 rw [h, ← Xo8, wkA]
 omega
theorem Ymm (p : Xay) (h : Xlh p = true) : ∃ t, Xen p = some (t, true) ∧ Xeo t = some (p, true) := by
 obtain ⟨sq, f, la, b⟩ := p
 have hp := (Xno _).1 h
 simp only at hp
 have hv : ∃ z : Int, (0 ≤ z ∧ z ≤ 3) ∧ (bnd (sel f (some (IntKind.wrap .u8 (BitVec.ofInt (IntKind.bits .u8) 0 ||| BitVec.ofInt (IntKind.bits .u8) 1).toNat)) (some 0)) fun v2 => sel la (some (IntKind.wrap .u8 (BitVec.ofInt (IntKind.bits .u8) v2 ||| BitVec.ofInt (IntKind.bits .u8) 2).toNat)) (some v2)) = some z ∧ ((IntKind.wrap .u8 (BitVec.ofInt (IntKind.bits .u8) z &&& BitVec.ofInt (IntKind.bits .u8) 1).toNat) == 1) = f ∧ ((IntKind.wrap .u8 (BitVec.ofInt (IntKind.bits .u8) z &&& BitVec.ofInt (IntKind.bits .u8) 2).toNat) == 2) = la := by
  cases f <;> cases la
  ·
   exact ⟨0, by omega, by decide +kernel, by decide +kernel, by decide +kernel⟩
  ·
   exact ⟨2, by omega, by decide +kernel, by decide +kernel, by decide +kernel⟩
  ·
   exact ⟨1, by omega, by decide +kernel, by decide +kernel, by decide +kernel⟩
  ·
   exact ⟨3, by omega, by decide +kernel, by decide +kernel, by decide +kernel⟩
 obtain ⟨z, hz, ez, e1, e2⟩ := hv
 have h2 : min (8 : Int).toNat (IntKind.bits .i64) = 8 := by decide
 have w0 : Xaa .u8 (sq / 2 ^ 8) = sq / 256 := w8 (by omega) (by omega)
 have w1 : Xaa .u8 sq = sq % 256 := by
  show IntKind.wrap .u8 sq = sq % 256
  simp [IntKind.wrap, IntKind.signed, IntKind.bits]
 have hbl : Yns [sq / 256, sq % 256, z] := by
  intro x hx
  simp only [List.mem_cons, List.not_mem_nil, or_false] at hx
  rcases hx with rfl | rfl | rfl <;> omega
 have hT : (strOfNums [sq / 256, sq % 256, z] ++ b).size = 3 + b.size := by rw [ByteArray.size_append, strOfNums_size]; rfl
 refine ⟨strOfNums [sq / 256, sq % 256, z] ++ b, ?_, ?_⟩
 ·
  unfold Xen
  simp only
  rw [Xjv, Xad, h, Bool.not_true, Xa7, h2, w0, w1]
  obtain ⟨v2, ev, ez'⟩ := Xbl ez
  rw [ev, Xad, ez', Xad, rqA, Xa3 (by rw [strOfNums_size]; simp only [List.length_cons, List.length_nil]; omega)]
 ·
  have hn : Xal (strOfNums [sq / 256, sq % 256, z] ++ b) = [sq / 256, sq % 256, z] ++ Xal b := by rw [Xy8, Xx9 _ hbl]
  have b0 : Xei (strOfNums [sq / 256, sq % 256, z] ++ b) 0 = sq / 256 := by rw [← Xnq, hn]; rfl
  have b1 : Xei (strOfNums [sq / 256, sq % 256, z] ++ b) 1 = sq % 256 := by rw [← Xnq, hn]; rfl
  have b2 : Xei (strOfNums [sq / 256, sq % 256, z] ++ b) 2 = z := by rw [← Xnq, hn]; rfl
  have b3 : (strOfNums [sq / 256, sq % 256, z] ++ b).extract 3 (3 + b.size) = b := by
   apply Xl6
   rw [Xb7, hn, List.take_of_length_le (by rw [List.length_append, Xav]; simp only [List.length_cons, List.length_nil]; omega)]
   rfl
  unfold Xeo
  rw [hT, snA, rqA, b2, decide_eq_false (by omega), Xad, Xa7, rqA, rqA, rqA, rqA, rqA, rqA, b0, b1, h2, wkA (e := sq / 256), wkA (e := sq / 256 * 2 ^ 8), wkA (e := sq % 256), show sq / 256 * 2 ^ 8 = sq / 256 * 256 from rfl, Yp0 _ _ (by omega) (by omega), show sq / 256 * 256 + sq % 256 = sq by omega, e1, e2, show (3 : Int).toNat = 3 from rfl, Int.toNat_natCast, b3, Xjv, Xad, h]
  rfl
theorem Ymg (l : List ByteArray) (a n : Int) : pkV l a n = ([], false) ∨ ∃ s, Xla l = (s, true) ∧ s.size ≠ 0 ∧ (0 ≤ a ∧ a ≤ 65535) ∧ (1 ≤ n.toNat ∧ n.toNat ≤ 400) ∧ n = (n.toNat : Int) ∧ (s.size + n.toNat - 1) / n.toNat ≤ 60 ∧ pkV l a n = (pkL s a n.toNat ((s.size + n.toNat - 1) / n.toNat), true) := by
 unfold pkV
 by_cases h : (0 ≤ a ∧ a ≤ 65535) ∧ (1 ≤ n ∧ n ≤ 400) ∧ (Xla l).2 = true ∧ (Xla l).1.size ≠ 0 ∧ ((Xla l).1.size + n.toNat - 1) / n.toNat ≤ 60
 ·
  rw [if_pos h]
  exact Or.inr ⟨(Xla l).1, Prod.ext rfl h.2.2.1, h.2.2.2.1, h.1, by omega, by omega, h.2.2.2.2, rfl⟩
 ·
  rw [if_neg h]; exact Or.inl rfl
theorem Ybo (c : Xaw) (hc : Xc1 c) : ∃ us a n c', Xjp c = some ((pkV us a n).1, c') ∧ Xc1 c' := by
 unfold Xjp
 obtain ⟨us1, c1, e1, _, g1, h1⟩ := Xwx c hc
 obtain ⟨b, c2, e2, h2⟩ := Xdg c1 2 h1
 rw [e1, Xad]
 simp only
 rw [e2, Xad]
 simp only
 have hv : ∃ (us : List ByteArray) (c3 : Xaw), (sel b (bnd (Xfr c2) fun q4 => some (q4.2.2.b_, q4.2.2.i_, q4.2.2.h_, q4.2.1)) (some (c2.b_, c2.i_, c2.h_, us1))) = some (c3.b_, c3.i_, c3.h_, us) ∧ (∀ u ∈ us, u.size ≤ 1000000) ∧ Xc1 c3 := by
  cases b with
  | true =>
   obtain ⟨s, us, c3, e3, _, g3, h3⟩ := Xxz c2 h2
   rw [Xa8, e3, Xad]
   exact ⟨us, c3, rfl, g3, h3⟩
  | false => exact ⟨us1, c2, rfl, g1, h2⟩
 obtain ⟨us, c3, e3, g3, h3⟩ := hv
 rw [e3, Xad]
 simp only
 obtain ⟨a, c4, e4, a0, a1, h4⟩ := Ydt (⟨c3.b_, c3.i_, c3.h_⟩ : Xaw) h3
 obtain ⟨n, c5, e5, _, h5⟩ := Xh3 c4 [2, 9, 40, 100, 400] h4 (by decide) (by decide)
 rw [e4, Xad]
 simp only
 rw [e5, Xad]
 simp only
 rw [Xt2 us a n (fun u hu => by have := g3 u hu; omega), Xad]
 exact ⟨us, a, n, _, rfl, h5⟩
theorem Xqi (b : List Int) (hb : b.length ≤ 1048576) : ∃ l, Xd0 b = some l ∧ (l = [] ∨ ∃ us s a N, Xla us = (s, true) ∧ s.size ≠ 0 ∧ (0 ≤ a ∧ a ≤ 65535) ∧ (1 ≤ N ∧ N ≤ 400) ∧ (2 ≤ (s.size + N - 1) / N ∧ (s.size + N - 1) / N ≤ 24) ∧ l = pkL s a N ((s.size + N - 1) / N)) := by
 unfold Xd0
 obtain ⟨c, e, hc⟩ := Yc6 b hb
 obtain ⟨us, a, n, c1, e1, _⟩ := Ybo c hc
 rw [e, Xad, e1, Xad]
 simp only
 rw [Xu8, Xad]
 rcases Ymg us a n with hp | ⟨s, f1, f2, f3, f4, f5, f6, hp⟩
 ·
  rw [hp]
  exact ⟨[], rfl, Or.inl rfl⟩
 ·
  rw [hp]
  simp only
  rw [Xza]
  cases hcnd : (decide ((((s.size + n.toNat - 1) / n.toNat : Nat) : Int) < 2) || decide ((((s.size + n.toNat - 1) / n.toNat : Nat) : Int) > 24)) with
  | true => exact ⟨[], rfl, Or.inl rfl⟩
  | false =>
   rw [Bool.or_eq_false_iff, decide_eq_false_iff_not, decide_eq_false_iff_not] at hcnd
   exact ⟨_, rfl, Or.inr ⟨us, s, a, n.toNat, f1, f2, f3, f4, by omega, rfl⟩⟩
theorem FnPackets {p0 : List Int} (h0 : p0.length ≤ maxLen ∧ ∀ y ∈ p0, (Lit.int .u8 y).wf = true) : Xi5 p0 = some true := by
 have hm : maxLen = 9223372036854775807 := rfl
 unfold Xi5
 rw [Yh6, Xad]
 by_cases hb : (p0.length : Int) > 1048576
 ·
  rw [Xa6 hb]
 rw [Xax hb]
 obtain ⟨l, el, hl⟩ := Xqi p0 (by omega)
 rw [el, Xad]
 rcases hl with rfl | ⟨us, s, a, N, f1, f2, f3, f4, f5, rfl⟩
 ·
  rfl
 obtain ⟨_, g2, g3, g4⟩ := Xnf us s f1
 have hlen := Xza s a N ((s.size + N - 1) / N)
 have pic := Yko s a N us f1 f2 f4 f3 (by omega)
 have cut := Yie s a N ((s.size + N - 1) / N) f5
 have pok := fun k hk => Ymf s a N k f4 hk f3 ((s.size + N - 1) / N)
 have hat := Yg3 s a N ((s.size + N - 1) / N)
 have first := (Xo0 s.size N 1 f4.1 (by omega)).1
 have pv : Xd9 us a N = some (pkL s a N ((s.size + N - 1) / N), true) := by
  rw [Xtf us a N (fun u hu => by have := (Xov u (g2 u hu)).2.2.1; omega)]
  unfold pkV
  rw [f1, Int.toNat_natCast, if_pos ⟨f3, by omega, rfl, f2, Nat.le_trans f5.2 (by decide)⟩]
 generalize hM : (s.size + N - 1) / N = M at *
 generalize hL : pkL s a N M = L at *
 have at0 : L.getD 0 Xa4 = Xrn s a N M 0 := hat 0 (by omega)
 have sq0 : (Xrn s a N M 0).Seq = a := by unfold Xrn Xft; simp only; rw [if_pos (by omega)]; omega
 have bz0 : ((Xrn s a N M 0).Bytes.size : Int) = N := by
  unfold Xrn
  simp only
  rw [ByteArray.size_extract]; omega
 rw [Xbb (by rw [beq_eq_false_iff_ne]; omega), List.nil_append, List.nil_append, Xa3 (by simp only [List.length_nil]; omega), pic, Xad]
 simp only
 rw [show (0 : Int).toNat = 0 from rfl, List.nil_append, Xa3 (by simp only [List.length_nil]; omega), rqA, rqA, rqA, rqA, at0, sq0, bz0, pv, Xad]
 simp only
 rw [Xa8, Xa8, Xnm L (by omega), Xad, Bool.not_true, Xad, Xa7]
 have lp : loop (Xc4 L) 0 = some (.out ()) := by
  refine Xl7 L.length (fun i hi => ?_) (by unfold Xc4; rw [snA])
  have hi' : i < M := by omega
  have e := hat i hi'
  obtain ⟨t, t1, t2⟩ := Ymm (Xrn s a N M i) (pok i hi')
  unfold Xc4
  simp only [Int.toNat_natCast, e, show (0 : Int).toNat = 0 from rfl, at0, sq0]
  rw [syA, rqA, rqA, show (⟨(Xrn s a N M i).Seq, (Xrn s a N M i).First, (Xrn s a N M i).Last, (Xrn s a N M i).Bytes⟩ : Xay) = Xrn s a N M i from rfl, t1, Xad, t2, Xad]
  simp only
  have sqi : (Xrn s a N M i).Seq = Xft a i := rfl
  rw [Xa8, Xa8, rqA, rqA, beq_self_eq_true, beq_self_eq_true, beq_self_eq_true, beq_self_eq_true, Xbb (by rfl), rqA, rqA, rqA, rqA, Xkg, Xad, sqi, bne_self_eq_false, Xa7, rqA, rqA, rqA, rqA, Yb3, Xad]
  have gap : Yj2 a (Xft a i) = i := by
   unfold Xft
   rw [if_pos (by omega)]
   unfold Yj2
   rw [if_pos (by omega)]
   repeat' split
   all_goals omega
  rw [gap, bne_self_eq_false, Xad, Xa7, wkA]
  rfl
 refine (Xel lp).trans ?_
 simp only
 rw [show (1 : Int).toNat = 1 from rfl, Int.toNat_natCast, rqA]
 have tk : (L.drop 1).take (L.length - 1) = L.drop 1 := List.take_of_length_le (by rw [List.length_drop]; omega)
 rw [tk, Xa3 (by rw [List.length_drop]; simp only [List.length_nil]; omega), cut, Xad]
 rfl
end Go.Proofs.YtlebkepfhdjnmadGreat.A.Pure
