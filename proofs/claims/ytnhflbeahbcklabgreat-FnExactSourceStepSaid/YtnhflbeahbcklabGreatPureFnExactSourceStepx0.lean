/- The pure statement of the law FnExactSourceStep, part 1: over numbers, texts and lists alone, what the law computes is true. Conditions: the sizes of what a machine holds. -/
import Derived.Test.YtnhflbeahbcklabGreatDFnExactSourceStep
namespace Go.Proofs.YtnhflbeahbcklabGreat.A.Pure
open Go Go.Proofs Go.Proofs.YtnhflbeahbcklabGreatAL Go.RowKit
set_option linter.unusedVariables false
set_option linter.unusedSimpArgs false
set_option maxHeartbeats 1000000
noncomputable section
def Xi4 (p0 : (List Int)) (p1 : Int) (v2 : (Int × Int)) : Option (Lp (Int × Int) Int) :=
 sel (decide (v2.2 < p1)) (
 req (0 ≤ v2.2 ∧ v2.2 < p0.length) <|
 some (.go (Xaa .i64 (v2.1 + (p0.getD v2.2.toNat 0)), Xaa .i64 (v2.2 + 1)))) (
 some (.done v2.1))
def Xrk (p0 : (List Int)) (p1 : Int) : Option Int :=
 bnd (loop (Xi4 p0 p1) (0, 0)) fun v4 =>
 some v4
def Xtc (p0 : Seq) (p1 : Int) : Option (Zb6 × Bool) :=
 bnd (
 sel (decide (p1 < 0)) (
 some true) (
 bnd (Xic p0) fun q2 =>
 some (decide (p1 ≥ q2)))) fun v1 =>
 sel v1 (
 some ((⟨0, 0, 0, 0⟩ : Zb6), false)) (
 req ((p0.Cols.length : Int) ≠ 0) <|
 req ((p0.Cols.length : Int) ≠ 0) <|
 bnd (Xrk p0.Cols (p1.tmod (p0.Cols.length : Int))) fun q3 =>
 bnd (Xrk p0.Rows (Xaa .i64 (p1.tdiv (p0.Cols.length : Int)))) fun q4 =>
 req (0 ≤ (p1.tmod (p0.Cols.length : Int)) ∧ (p1.tmod (p0.Cols.length : Int)) < p0.Cols.length) <|
 req (0 ≤ (Xaa .i64 (p1.tdiv (p0.Cols.length : Int))) ∧ (Xaa .i64 (p1.tdiv (p0.Cols.length : Int))) < p0.Rows.length) <|
 some ((⟨Xaa .i64 (8 * q3), Xaa .i64 (8 * q4), Xaa .i64 (8 * (p0.Cols.getD (p1.tmod (p0.Cols.length : Int)).toNat 0)), Xaa .i64 (8 * (p0.Rows.getD (Xaa .i64 (p1.tdiv (p0.Cols.length : Int))).toNat 0))⟩ : Zb6), true))
def Xj8 (p0 : Seq) (p1 : Int) : Option Int :=
 bnd (Xtc p0 p1) fun q1 =>
 req ((8 : Int) ≠ 0) <|
 req ((8 : Int) ≠ 0) <|
 some (Xaa .i64 ((Xaa .i64 (q1.1.Wide.tdiv 8)) * (Xaa .i64 (q1.1.High.tdiv 8))))
def Yap (p0 : Seq) (p1 : Int) : Option (Zb6 × Bool) :=
 bnd (Xhv p0) fun q1 =>
 bnd (Xao p1 0 (Xaa .i64 (q1 - 1))) fun q2 =>
 sel (!q2) (
 some ((⟨0, 0, 0, 0⟩ : Zb6), false)) (
 req ((p0.Cols.length : Int) ≠ 0) <|
 req ((p0.Cols.length : Int) ≠ 0) <|
 req (0 ≤ (0 : Int) ∧ (0 : Int) ≤ (p1.tmod (p0.Cols.length : Int)) ∧ (p1.tmod (p0.Cols.length : Int)) ≤ (p0.Cols.length : Int)) <|
 bnd (Xb6 ((p0.Cols.drop (0 : Int).toNat).take ((p1.tmod (p0.Cols.length : Int)).toNat - (0 : Int).toNat))) fun q3 =>
 req (0 ≤ (0 : Int) ∧ (0 : Int) ≤ (Xaa .i64 (p1.tdiv (p0.Cols.length : Int))) ∧ (Xaa .i64 (p1.tdiv (p0.Cols.length : Int))) ≤ (p0.Rows.length : Int)) <|
 bnd (Xb6 ((p0.Rows.drop (0 : Int).toNat).take ((Xaa .i64 (p1.tdiv (p0.Cols.length : Int))).toNat - (0 : Int).toNat))) fun q4 =>
 req (0 ≤ (p1.tmod (p0.Cols.length : Int)) ∧ (p1.tmod (p0.Cols.length : Int)) < p0.Cols.length) <|
 req (0 ≤ (Xaa .i64 (p1.tdiv (p0.Cols.length : Int))) ∧ (Xaa .i64 (p1.tdiv (p0.Cols.length : Int))) < p0.Rows.length) <|
 some ((⟨Xaa .i64 (8 * q3), Xaa .i64 (8 * q4), Xaa .i64 (8 * (p0.Cols.getD (p1.tmod (p0.Cols.length : Int)).toNat 0)), Xaa .i64 (8 * (p0.Rows.getD (Xaa .i64 (p1.tdiv (p0.Cols.length : Int))).toNat 0))⟩ : Zb6), true))
end
theorem Xad {α β : Type} (a : α) (f : α → Option β) : bnd (some a) f = f a := rfl
theorem Xip {α β : Type} {x : Option α} {a : α} {f : α → Option β} (h : x = some a) : bnd x f = f a := by subst h; rfl
theorem Xa0 {β : Type} (x y : β) : sel true x y = x := rfl
theorem Xay {β : Type} (x y : β) : sel false x y = y := rfl
theorem Xs9 {β : Type} (b : Bool) (x y : β) : sel (!b) x y = sel b y x := by cases b <;> rfl
theorem Xdb (b x : Bool) : sel b (some x) (some false) = some (b && x) := by cases b <;> rfl
theorem Ybj (b x : Bool) : sel b (some true) (some x) = some (b || x) := by cases b <;> rfl
theorem Xta (b x : Bool) : sel b (some x) (some true) = some (!b || x) := by cases b <;> rfl
theorem Yyj {β : Type} (b : Bool) (x y : β) : sel b (some x) (some y) = some (sel b x y) := by cases b <;> rfl
theorem Yls {β : Type} (b : Bool) (x y : β) : sel b x y = if b = true then x else y := by cases b <;> rfl
theorem Yd5 {β : Type} (p : Prop) [Decidable p] (x y : β) : sel (decide p) x y = if p then x else y := by
 by_cases h : p <;> simp [h, sel]
theorem Xbk {β : Type} {b : Bool} {x y : β} (h : b = true) : sel b x y = x := by subst h; rfl
theorem Xba {β : Type} {b : Bool} {x y : β} (h : b = false) : sel b x y = y := by subst h; rfl
theorem Xbo {β : Type} {p : Prop} [Decidable p] {x y : β} (h : p) : sel (decide p) x y = x := by simp [h, sel]
theorem Xav {β : Type} {p : Prop} [Decidable p] {x y : β} (h : ¬ p) : sel (decide p) x y = y := by simp [h, sel]
theorem Xaz {β : Type} {c : Prop} [Decidable c] {k : Option β} (h : c) : req c k = k := if_pos h
theorem wk {e : Int} (h1 : -9223372036854775808 ≤ e) (h2 : e ≤ 9223372036854775807) : Xaa .i64 e = e := by
 show wrap64 e = e
 unfold wrap64; omega
theorem rqA {β : Type} {c : Prop} [Decidable c] {k : Option β} (h : c := by omega) : req c k = k := Xaz h
theorem syA {β : Type} {c : Prop} [Decidable c] {x y : β} (h : c := by omega) : sel (decide c) x y = x := Xbo h
theorem snA {β : Type} {c : Prop} [Decidable c] {x y : β} (h : ¬ c := by omega) : sel (decide c) x y = y := Xav h
theorem wkA {e : Int} (h1 : -9223372036854775808 ≤ e := by omega) (h2 : e ≤ 9223372036854775807 := by omega) : Xaa .i64 e = e := wk h1 h2
theorem w8 {e : Int} (h1 : 0 ≤ e) (h2 : e ≤ 255) : Xaa .u8 e = e := by
 show IntKind.wrap .u8 e = e
 simp [IntKind.wrap, IntKind.signed, IntKind.bits]; omega
theorem Zho {n : Int} (h : (Lit.int .i64 n).wf = true) : -9223372036854775808 ≤ n ∧ n ≤ 9223372036854775807 := by
 simp [Lit.wf, IntKind.min, IntKind.max, IntKind.signed, IntKind.bits] at h
 omega
theorem Xb3 {a b : Int} (h : 0 ≤ a) : Int.tmod a b = a % b := Int.tmod_eq_emod_of_nonneg h
theorem Xbp {a b : Int} (h : 0 ≤ a) : Int.tdiv a b = a / b := Int.tdiv_eq_ediv_of_nonneg h
theorem Xkb {P : Nat → Prop} (n : Nat) (h0 : P n) (hs : ∀ i, i < n → P (i + 1) → P i) : ∀ i, i ≤ n → P i := by
 intro i hi
 obtain ⟨k, rfl⟩ : ∃ k, n = i + k := ⟨n - i, by omega⟩
 clear hi
 induction k generalizing i with
 | zero => exact h0
 | succ k ih =>
  refine hs i (by omega) ?_
  exact ih (i + 1) (by rw [show i + 1 + k = i + (k + 1) by omega]; exact h0) (fun j hj => hs j (by omega))
theorem lgo {V O : Type} {f : V → Option (Lp V O)} {x y : V} {r : Option O} (h : f x = some (.go y)) (k : loop f y = r) : loop f x = r := by rw [Xdp h]; exact k
theorem Xf7 {V O : Type} {f : V → Option (Lp V O)} {x : V} {o : O} (h : f x = some (.done o)) : loop f x = some o := Xe7 h
theorem Yit {V O : Type} {f : V → Option (Lp V O)} (I : V → Prop) (m : V → Nat) (Q : V → O → Prop) (h : ∀ v, I v → (∃ o, f v = some (.done o) ∧ Q v o) ∨ ∃ v', f v = some (.go v') ∧ I v' ∧ m v' < m v ∧ ∀ o, Q v' o → Q v o) : ∀ v, I v → ∃ o, loop f v = some o ∧ Q v o := by
 intro v
 generalize hn : m v = n
 induction n using Nat.strongRecOn generalizing v with
 | _ n ih =>
  intro hv
  rcases h v hv with ⟨o, h1, h2⟩ | ⟨v', h1, h2, h3, h4⟩
  ·
   exact ⟨o, Xe7 h1, h2⟩
  ·
   obtain ⟨o, h5, h6⟩ := ih (m v') (by omega) v' rfl h2
   exact ⟨o, by rw [Xdp h1]; exact h5, h4 o h6⟩
theorem Xd8 {α : Type} (l : List α) (i : Nat) (h : i < l.length) (d : α) : l.getD i d = l[i] := by
 simp [List.getD_eq_getElem?_getD, List.getElem?_eq_getElem h]
theorem Xar (a b c : Int) : Xao a b c = some (decide (b ≤ a ∧ a ≤ c)) := by
 unfold Xao
 by_cases h : b ≤ a <;> simp [bnd, sel, h]
theorem Xaj (a b c : Int) : Xas a b c = some (decide (b ≤ a ∧ a ≤ c)) := by
 unfold Xas
 by_cases h : b ≤ a <;> simp [bnd, sel, h]
theorem Yd6 {α : Type} (a : List α) (x y : α) (b : List α) : (a ++ x :: b).set a.length y = a ++ y :: b := by
 induction a with
 | nil => rfl
 | cons z a ih => simp only [List.cons_append, List.length_cons, List.set_cons_succ, ih]
theorem Xgo {α : Type} (a : List α) (x d : α) (b : List α) : (a ++ x :: b).getD a.length d = x := by
 induction a with
 | nil => rfl
 | cons z a ih => simp
theorem Zai {α β : Type} (l : List α) (g : α → β) (d : α) (e : β) {f : (Int × List β) → Option (Lp (Int × List β) (List β))}
  (h : ∀ (i : Nat) (o : List β), i < l.length → o.length = l.length → f ((i : Int), o) = some (.go (((i + 1 : Nat) : Int), o.set i (g (l.getD i d))))) (h0 : ∀ o, f ((l.length : Int), o) = some (.done o)) : loop f (0, List.replicate l.length e) = some (l.map g) := by
 have key : ∀ (r a : List α), l = a ++ r → loop f ((a.length : Int), a.map g ++ List.replicate r.length e) = some (l.map g) := by
  intro r
  induction r with
  | nil =>
   intro a ha
   rw [List.append_nil] at ha
   subst ha
   rw [Xe7 (h0 _)]; simp
  | cons x r ih =>
   intro a ha
   have hlen : a.length < l.length := by rw [ha]; simp
   rw [Xdp (h a.length _ hlen (by rw [ha]; simp))]
   have e1 : l.getD a.length d = x := by rw [ha]; exact Xgo a x d r
   have e2 : (a.map g ++ List.replicate (x :: r).length e).set a.length (g x) = (a ++ [x]).map g ++ List.replicate r.length e := by
    have := Yd6 (a.map g) e (g x) (List.replicate r.length e)
    rw [List.length_map] at this
    rw [List.length_cons, List.replicate_succ, this]
    simp
   rw [e1, e2]
   have := ih (a ++ [x]) (by rw [ha]; simp)
   rw [List.length_append, List.length_singleton] at this
   exact this
 exact key l [] rfl
theorem Xsd {f : Int → Option (Lp Int (Ou Unit Bool))} (n : Nat) (h : ∀ i : Nat, i < n → f i = some (.go ((i + 1 : Nat) : Int))) (h0 : f n = some (.done (.out ()))) : loop f 0 = some (.out ()) :=
 Xkb (P := fun i => loop f (i : Int) = some (.out ())) n (Xe7 h0) (fun i hi ih => by rw [Xdp (h i hi)]; exact ih) 0 (by omega)
theorem Ycl (n : Int) : (strOfNums [n]).size = 1 := rfl
theorem Ygs (k : Int) (h0 : 0 < k) (h1 : k ≤ 1000000000000) : ∃ s, Xe5 k = some s := by
 unfold Xe5
 rw [snA]
 obtain ⟨o, h, h2⟩ := Yit (f := Xj4) (fun v => 0 ≤ v.1 ∧ v.1 + v.2.size ≤ 1000000000000) (fun v => v.1.toNat) (fun _ o => o.size ≤ 1000000000000) (by
  intro ⟨n, s⟩ ⟨a, b⟩
  unfold Xj4
  simp only at a b ⊢
  by_cases h : n > 0
  ·
   rw [Xbo h, Xaz (by decide), Ycl, rqA, Xaz (by decide), Xbp a]
   refine .inr ⟨_, rfl, ?_, ?_, fun _ h => h⟩
   ·
    simp only [ByteArray.size_append, Ycl]
    rw [wkA]; omega
   ·
    simp only
    rw [wkA]; omega
  ·
   rw [Xav h]
   exact .inl ⟨_, rfl, by omega⟩) (k, ⟨#[]⟩) ⟨by simp only; omega, by simp only [show (⟨#[]⟩ : ByteArray).size = 0 from rfl]; omega⟩
 rw [h, Xad, Xaz (by simp only [show (⟨#[109]⟩ : ByteArray).size = 1 from rfl]; omega)]
 exact ⟨_, rfl⟩
noncomputable def mT (k : Int) : ByteArray := (Xe5 k).getD ⟨#[]⟩
theorem Xtv (k : Int) (h0 : 0 < k) (h1 : k ≤ 1000000000000) : Xe5 k = some (mT k) := by
 obtain ⟨s, h⟩ := Ygs k h0 h1
 unfold mT; rw [h]; rfl
def Xbd (n a b : Int) : Int := if b < a ∨ n < a then a else if n > b then b else n
theorem Xho (n a b : Int) : Xco n a b = some (Xbd n a b) := by
 unfold Xco Xbd
 congr 1
 repeat' split
 all_goals omega
def Xok (r : Rate) : Bool := decide (0 ≤ r.Qp ∧ r.Qp ≤ 40 ∧ 1 ≤ r.Target ∧ r.Target ≤ 100000 ∧ -8 * r.Target ≤ r.Debt ∧ r.Debt ≤ 8 * r.Target)
theorem Xsa (r : Rate) : Xok r = true ↔ 0 ≤ r.Qp ∧ r.Qp ≤ 40 ∧ 1 ≤ r.Target ∧ r.Target ≤ 100000 ∧ -8 * r.Target ≤ r.Debt ∧ r.Debt ≤ 8 * r.Target := by simp [Xok]
theorem Xq2 (r : Rate) : Xkd r = some (Xok r) := by
 unfold Xkd Xok
 simp only [Xar, Xad]
 by_cases h1 : 0 ≤ r.Qp ∧ r.Qp ≤ 40
 ·
  rw [Xbo h1]
  by_cases h2 : 1 ≤ r.Target ∧ r.Target ≤ 100000
  ·
   rw [Xbo h2, wkA, wkA, Xad]
   simp only [h1.1, h1.2, h2.1, h2.2, true_and]
  ·
   rw [Xav h2, Xad]; congr 1; symm; rw [decide_eq_false_iff_not]; exact fun h => h2 ⟨h.2.2.1, h.2.2.2.1⟩
 ·
  rw [Xav h1, Xad]; congr 1; symm; rw [decide_eq_false_iff_not]; exact fun h => h1 ⟨h.1, h.2.1⟩
def Xgu (r : Rate) (n : Int) : Int := Xbd (r.Debt + Xbd n 0 400000 - r.Target) (-8 * r.Target) (8 * r.Target)
def Ybe (r : Rate) (n : Int) : Rate :=
 if Xok r = true then ⟨Xbd (if Xgu r n > r.Target then r.Qp + 1 else if Xgu r n < -r.Target then r.Qp - 1 else r.Qp) 0 40, r.Target, Xgu r n⟩ else r
theorem Xfv {n a b : Int} (h : a ≤ b) : a ≤ Xbd n a b ∧ Xbd n a b ≤ b := by
 unfold Xbd
 repeat' split
 all_goals omega
theorem Yf6 (r : Rate) (n : Int) : Xld r n = some (Ybe r n) := by
 unfold Xld Ybe
 rw [Xq2, Xad]
 by_cases h : Xok r = true
 ·
  rw [if_pos h, Xba (by rw [h]; rfl)]
  have h' := (Xsa r).1 h
  have hb := Xfv (n := n) (a := 0) (b := 400000) (by omega)
  simp only [Xho, Xad]
  rw [wkA (e := r.Debt + Xbd n 0 400000), wkA (e := r.Debt + Xbd n 0 400000 - r.Target), wkA (e := -8 * r.Target), wkA (e := 8 * r.Target)]
  have hd := Xfv (n := r.Debt + Xbd n 0 400000 - r.Target) (a := -8 * r.Target) (b := 8 * r.Target) (by omega)
  have ed : Xbd (r.Debt + Xbd n 0 400000 - r.Target) (-8 * r.Target) (8 * r.Target) = Xgu r n := rfl
  rw [ed]
  have hd' : -8 * r.Target ≤ Xgu r n ∧ Xgu r n ≤ 8 * r.Target := hd
  rw [wkA (e := r.Qp + 1), wkA (e := r.Qp - 1), wkA (e := 0 - r.Target)]
  simp only [Yd5]
  by_cases h1 : Xgu r n > r.Target
  ·
   rw [if_pos h1, if_pos h1, Xad]
  ·
   rw [if_neg h1, if_neg h1]
   by_cases h2 : Xgu r n < -r.Target
   ·
    rw [if_pos h2, if_pos (show Xgu r n < 0 - r.Target by omega), Xad]
   ·
    rw [if_neg h2, if_neg (show ¬ Xgu r n < 0 - r.Target by omega), Xad]
 ·
  rw [if_neg h, Xbk (by simpa using h)]
def Xza (r : Rate) (key : Bool) : Int := if Xok r = true then (if key = true then Xbd (r.Qp - 2) 0 40 else r.Qp) else 0
theorem Yr3 (r : Rate) (key : Bool) : Xrq r key = some (Xza r key) := by
 unfold Xrq Xza
 rw [Xq2, Xad, Xs9]
 by_cases h : Xok r = true
 ·
  rw [if_pos h, Xbk h]
  have h' := (Xsa r).1 h
  rw [wkA]
  cases key
  ·
   rfl
  ·
   rw [Xa0, if_pos rfl]; congr 1; unfold Xbd; repeat' split
   all_goals omega
 ·
  rw [if_neg h, Xba (by simpa using h)]
def cnt (n : Int) : Bool := decide (0 ≤ n ∧ n ≤ 1000000000)
theorem Xdd (n a b : Int) : Xb7 n a b = some (Xbd n a b) := by
 unfold Xb7 Xbd
 rw [Ybj, Xad]
 by_cases h : b < a ∨ n < a
 ·
  rw [if_pos h, Xbk (by simpa using h)]
 ·
  rw [if_neg h, Xba (by simp; omega), Yd5]; split <;> rfl
theorem Zeg {α : Type} (l : List α) (k : Nat) : (l.drop k).take (l.length - k) = l.drop k := List.take_of_length_le (by rw [List.length_drop]; omega)
def Xe8 (n : Int) : Bool := decide (1 ≤ n ∧ n ≤ 8)
def Xpn : List Int → Int
 | [] => 0
 | x :: r => x + Xpn r
def Xeh (l : List Int) : Bool := decide (1 ≤ l.length ∧ l.length ≤ 4) && l.all Xe8
def Ye0 (l : List Int) : Int := if Xeh l = true then Xpn l else 0
theorem Xs5 : ∀ {l : List Int}, l.all Xe8 = true → (l.length : Int) ≤ Xpn l ∧ Xpn l ≤ 8 * l.length
 | [], _ => by simp [Xpn]
 | x :: r, h => by
  rw [List.all_cons, Bool.and_eq_true] at h
  have := Xs5 h.2
  have hx := h.1
  unfold Xe8 at hx
  simp only [decide_eq_true_eq] at hx
  rw [Xpn, List.length_cons]
  omega
theorem Yfo (l : List Int) : 0 ≤ Ye0 l ∧ Ye0 l ≤ 32 := by
 unfold Ye0
 split
 ·
  rename_i h
  unfold Xeh at h
  rw [Bool.and_eq_true, decide_eq_true_eq] at h
  have := Xs5 h.2
  omega
 ·
  omega
theorem Xnn (l : List Int) : Xig l = some (Ye0 l) := by
 unfold Xig Ye0 Xeh
 rw [Ybj, Xad]
 by_cases h : 1 ≤ l.length ∧ l.length ≤ 4
 ·
  rw [Xba (by simp; omega), decide_eq_true h, Bool.true_and]
  have key : ∀ (r a : List Int) (t : Int), l = a ++ r → 0 ≤ t → t ≤ 8 * a.length → loop (Xhh l) (t, (a.length : Int)) = some (if r.all Xe8 = true then .out (t + Xpn r) else .ret 0) := by
   intro r
   induction r with
   | nil =>
    intro a t ha h0 h1
    rw [List.append_nil] at ha
    refine Xf7 ?_
    unfold Xhh
    simp only
    rw [Xav (by rw [ha]; omega)]
    simp [Xpn]
   | cons x r ih =>
    intro a t ha h0 h1
    have hlen : a.length < l.length := by rw [ha]; simp
    have hx : l.getD a.length 0 = x := by rw [ha]; exact Xgo a x _ r
    have hstep : Xhh l (t, (a.length : Int)) = sel (Xe8 x) (some (.go (Xaa .i64 (t + x), ((a.length + 1 : Nat) : Int)))) (some (.done (.ret 0))) := by
     unfold Xhh
     simp only [Int.toNat_natCast, hx]
     rw [syA, rqA, Xaj, Xad, Xs9, rqA, wkA (e := (a.length : Int) + 1)]
     rfl
    cases e : Xe8 x with
    | true =>
     rw [e] at hstep
     have hx2 := e
     unfold Xe8 at hx2
     simp only [decide_eq_true_eq] at hx2
     rw [wkA, Xa0] at hstep
     have := ih (a ++ [x]) (t + x) (by rw [ha]; simp) (by omega) (by simp; omega)
     rw [List.length_append, List.length_singleton] at this
     rw [Xdp hstep, this, List.all_cons, e, Bool.true_and, Xpn, Int.add_assoc]
    | false =>
     rw [e, Xay] at hstep
     rw [Xe7 hstep, List.all_cons, e, Bool.false_and]; rfl
  have := key l [] 0 rfl (by omega) (by simp)
  simp only [List.length_nil, Int.zero_add] at this
  rw [show (((0 : Int), (0 : Int))) = (0, ((0 : Nat) : Int)) from rfl, this, Xad]
  cases l.all Xe8 <;> rfl
 ·
  rw [Xbk (by simp; omega), decide_eq_false h, Bool.false_and]; rfl
theorem Xov (l : List Int) (h : Xeh l = true) : Xb6 l = some (Xpn l) := by
 unfold Xeh at h
 rw [Bool.and_eq_true, decide_eq_true_eq] at h
 unfold Xb6
 have key : ∀ (r a : List Int) (t : Int), l = a ++ r → 0 ≤ t → t ≤ 8 * a.length → loop (Xdu l) (t, (a.length : Int)) = some (t + Xpn r) := by
  intro r
  induction r with
  | nil =>
   intro a t ha h0 h1
   rw [List.append_nil] at ha
   refine Xf7 ?_
   unfold Xdu
   simp only
   rw [Xav (by rw [ha]; omega)]
   simp [Xpn]
  | cons x r ih =>
   intro a t ha h0 h1
   have hlen : a.length < l.length := by rw [ha]; simp
   have hx : l.getD a.length 0 = x := by rw [ha]; exact Xgo a x _ r
   have e : Xe8 x = true := List.all_eq_true.1 h.2 x (by rw [ha]; simp)
   unfold Xe8 at e
   simp only [decide_eq_true_eq] at e
   have := ih (a ++ [x]) (t + x) (by rw [ha]; simp) (by omega) (by simp; omega)
   rw [List.length_append, List.length_singleton] at this
   rw [Xpn, ← Int.add_assoc, ← this]
   refine Xdp ?_
   unfold Xdu
   simp only [Int.toNat_natCast, hx]
   rw [syA, rqA, wkA (e := (a.length : Int) + 1), wkA]
   rfl
 have := key l [] 0 rfl (by omega) (by simp)
 simp only [List.length_nil, Int.zero_add] at this
 rw [show (((0 : Int), (0 : Int))) = (0, ((0 : Nat) : Int)) from rfl, this, Xad]
def Xqb (s : Seq) : Int := Ye0 s.Cols * Ye0 s.Rows
theorem Xx5 (s : Seq) : 0 ≤ Xqb s ∧ Xqb s ≤ 1024 := by
 unfold Xqb
 have h1 := Yfo s.Cols
 have h2 := Yfo s.Rows
 refine ⟨Int.mul_nonneg h1.1 h2.1, ?_⟩
 calc Ye0 s.Cols * Ye0 s.Rows ≤ 32 * Ye0 s.Rows := Int.mul_le_mul_of_nonneg_right h1.2 h2.1
  _ ≤ 1024 := by omega
theorem Yer (s : Seq) : Xjs s = some (Xqb s) := by
 have h := Xx5 s
 unfold Xjs
 rw [Xnn, Xad, Xnn, Xad, wk (by show _ ≤ Xqb s; omega) (by show Xqb s ≤ _; omega)]
 rfl
theorem Yzv (s : Seq) (n : Nat) (hn : n = 0 ∨ n = 1) (l : List Int) (hl : ([s.Cols, s.Rows]).getD n Xgn = l) (h4 : l.length ≤ 4) : loop (Xcd s (n : Int)) 0 = some (if l.all Xe8 = true then .out () else .ret 0) := by
 have key : ∀ (r a : List Int), l = a ++ r → loop (Xcd s (n : Int)) (a.length : Int) = some (if r.all Xe8 = true then .out () else .ret 0) := by
  intro r
  induction r with
  | nil =>
   intro a ha
   rw [List.append_nil] at ha
   refine Xf7 ?_
   unfold Xcd
   rw [Int.toNat_natCast, hl, Xav (by rw [ha]; omega)]; rfl
  | cons x r ih =>
   intro a ha
   have hlen : a.length < l.length := by rw [ha]; simp
   have hx : l.getD a.length 0 = x := by rw [ha]; exact Xgo a x _ r
   have hstep : Xcd s (n : Int) (a.length : Int) = sel (Xe8 x) (some (.go ((a.length + 1 : Nat) : Int))) (some (.done (.ret 0))) := by
    unfold Xcd
    simp only [Int.toNat_natCast, hl, hx]
    rw [syA, rqA, Xar, Xad, Xs9, wkA]
    rfl
   cases e : Xe8 x with
   | true =>
    rw [e, Xa0] at hstep
    have := ih (a ++ [x]) (by rw [ha]; simp)
    rw [List.length_append, List.length_singleton] at this
    rw [Xdp hstep, this, List.all_cons, e, Bool.true_and]
   | false => rw [e, Xay] at hstep; rw [Xe7 hstep, List.all_cons, e, Bool.false_and]; rfl
 exact key l [] rfl
theorem Ydh (s : Seq) (h1 : s.Cols.length ≤ maxLen) (h2 : s.Rows.length ≤ maxLen) : Xjk s = some (Xqb s) := by
 have h := Xx5 s
 unfold Xjk
 have step : ∀ (n : Nat) (l : List Int), n = 0 ∨ n = 1 → ([s.Cols, s.Rows]).getD n Xgn = l → Xdn s (n : Int) = sel (Xeh l) (some (.go ((n + 1 : Nat) : Int))) (some (.done (.ret 0))) := by
  intro n l hn hl
  unfold Xdn Xeh
  rw [Int.toNat_natCast, hl]
  simp only [List.length_cons, List.length_nil]
  rw [syA, rqA, rqA, Xar, Xad, Xs9]
  by_cases h4 : 1 ≤ l.length ∧ l.length ≤ 4
  ·
   rw [syA, Yzv s n hn l hl h4.2, Xad, decide_eq_true h4, Bool.true_and, wkA]
   cases l.all Xe8 <;> rfl
  ·
   rw [snA, decide_eq_false h4, Bool.false_and, Xay]
 have s0 := step 0 s.Cols (.inl rfl) rfl
 have s1 := step 1 s.Rows (.inr rfl) rfl
 have s2 : Xdn s ((2 : Nat) : Int) = some (.done (.out ())) := by unfold Xdn; rw [Xav (by simp)]
 rw [show (0 : Int) = ((0 : Nat) : Int) from rfl]
 unfold Xqb at h ⊢
 unfold Ye0 at h ⊢
 cases e0 : Xeh s.Cols with
 | false => rw [e0, Xay] at s0; rw [Xe7 s0, Xad]; simp
 | true =>
  rw [e0, Xa0] at s0
  rw [Xdp s0]
  cases e1 : Xeh s.Rows with
  | false => rw [e1, Xay] at s1; rw [Xe7 s1, Xad]; simp
  | true =>
   rw [e1, Xa0] at s1
   rw [Xdp s1, Xe7 s2, Xad]
   simp only
   rw [e0, e1, if_pos rfl, if_pos rfl] at h
   rw [Xov _ e0, Xad, Xov _ e1, Xad, wkA]
   simp
def Xky (n : Int) : Int := if n = 1 then 16 else if n = 2 then 64 else if n = 3 then 256 else 0
theorem Xwv (n : Int) : Xgc n = some (Xky n) := by
 unfold Xgc Xky
 simp only [Yls, beq_iff_eq]
 repeat' split
 all_goals rfl
theorem Xwp (n : Int) : Xfy n = some (Xky n) := by
 unfold Xfy Xky
 rw [Xar, Xad, Xs9]
 by_cases h : 1 ≤ n ∧ n ≤ 3
 ·
  rw [Xbo h, wkA, Xaz (by simp only [List.length_cons, List.length_nil]; omega), Xaz (by simp only [List.length_cons, List.length_nil]; omega)]
  rcases (show n = 1 ∨ n = 2 ∨ n = 3 by omega) with rfl | rfl | rfl <;> rfl
 ·
  rw [Xav h, if_neg (by omega), if_neg (by omega), if_neg (by omega)]
def Xlt (s : Seq) : Bool := decide (1 ≤ Xqb s ∧ Xqb s ≤ Xky s.Level) && decide (3 ≤ s.Bits ∧ s.Bits ≤ 8)
theorem Ybx (s : Seq) : Xo5 s = some (Xlt s) := by
 unfold Xo5 Xlt
 simp only [Yer, Xwv, Xaj, Xad, Xdb]
theorem Xos (s : Seq) (h1 : s.Cols.length ≤ maxLen) (h2 : s.Rows.length ≤ maxLen) : Xkq s = some (Xlt s) := by
 unfold Xkq Xlt
 simp only [Ydh s h1 h2, Xwp, Xar, Xad, Xdb]
theorem Xbl {s : Seq} (h : Xlt s = true) : Xeh s.Cols = true ∧ Xeh s.Rows = true ∧ 3 ≤ s.Bits ∧ s.Bits ≤ 8 := by
 unfold Xlt at h
 rw [Bool.and_eq_true, decide_eq_true_eq, decide_eq_true_eq] at h
 obtain ⟨⟨h1, _⟩, h3⟩ := h
 unfold Xqb Ye0 at h1
 refine ⟨?_, ?_, h3⟩
 ·
  refine Classical.byContradiction fun e => ?_
  rw [if_neg e, Int.zero_mul] at h1; omega
 ·
  refine Classical.byContradiction fun e => ?_
  rw [if_neg e, Int.mul_zero] at h1; omega
def Xb2 (s : Seq) : Int := if Xlt s = true then (s.Cols.length : Int) * s.Rows.length else 0
theorem Xc1 {l : List Int} (h : Xeh l = true) : 1 ≤ l.length ∧ l.length ≤ 4 := by
 unfold Xeh at h; rw [Bool.and_eq_true, decide_eq_true_eq] at h; exact h.1
theorem Yng {s : Seq} (h : Xlt s = true) : 1 ≤ (s.Cols.length : Int) * s.Rows.length ∧ (s.Cols.length : Int) * s.Rows.length ≤ 16 := by
 obtain ⟨h1, h2, _⟩ := Xbl h
 have a := Xc1 h1
 have b := Xc1 h2
 have e : ∀ x y : Nat, 1 ≤ x → x ≤ 4 → 1 ≤ y → y ≤ 4 → 1 ≤ x * y ∧ x * y ≤ 16 := by
  intro x y h1 h2 h3 h4
  rcases (show x = 1 ∨ x = 2 ∨ x = 3 ∨ x = 4 by omega) with rfl | rfl | rfl | rfl <;> omega
 have := e _ _ a.1 a.2 b.1 b.2
 rw [← Int.natCast_mul]; omega
theorem Xp3 (s : Seq) : Xic s = some (Xb2 s) := by
 unfold Xic Xb2
 rw [Ybx, Xad, Xs9]
 cases h : Xlt s with
 | false => rfl
 | true => have := Yng h; rw [Xa0, wkA, if_pos rfl]
theorem Xpf (s : Seq) (h1 : s.Cols.length ≤ maxLen) (h2 : s.Rows.length ≤ maxLen) : Xhv s = some (Xb2 s) := by
 unfold Xhv Xb2
 rw [Xos s h1 h2, Xad, Xs9]
 cases h : Xlt s with
 | false => rfl
 | true => have := Yng h; rw [Xa0, wkA, if_pos rfl]
def Xja (s : Seq) : Int × Int := if Xlt s = true then (8 * Xpn s.Cols, 8 * Xpn s.Rows) else (0, 0)
theorem Ydn {l : List Int} (h : Xeh l = true) : 1 ≤ Xpn l ∧ Xpn l ≤ 32 := by
 unfold Xeh at h
 rw [Bool.and_eq_true, decide_eq_true_eq] at h
 have := Xs5 h.2
 omega
theorem Xjr (s : Seq) : Xm7 s = some (Xja s) := by
 unfold Xm7 Xja
 rw [Ybx, Xad, Xs9]
 cases h : Xlt s with
 | false => rfl
 | true =>
  obtain ⟨h1, h2, _⟩ := Xbl h
  have a := Ydn h1
  have b := Ydn h2
  rw [Xa0, Xnn, Xad, Xnn, Xad, if_pos rfl]
  unfold Ye0
  rw [if_pos h1, if_pos h2, wkA, wkA]
theorem Yof (s : Seq) (h1 : s.Cols.length ≤ maxLen) (h2 : s.Rows.length ≤ maxLen) : Xpe s = some (Xja s) := by
 unfold Xpe Xja
 rw [Xos s h1 h2, Xad, Xs9]
 cases h : Xlt s with
 | false => rfl
 | true =>
  obtain ⟨h1, h2, _⟩ := Xbl h
  have a := Ydn h1
  have b := Ydn h2
  rw [Xa0, Xov _ h1, Xad, Xov _ h2, Xad, if_pos rfl, wkA, wkA]
def Xuc (p : Par) : Bool := decide (0 ≤ p.Qp ∧ p.Qp ≤ 40) && !(p.Large && p.Exact)
theorem Ybv (p : Par) : Xo4 p = some (Xuc p) := by
 unfold Xo4 Xuc
 rw [Xaj, Xad, Xta, Xdb, Xad]
 cases p.Large <;> cases p.Exact <;> rfl
theorem Xsz (p : Par) : Xml p = some (Xuc p) := by
 unfold Xml Xuc
 rw [Xar, Xad, Xta, Xdb, Xad]
 cases p.Large <;> cases p.Exact <;> rfl
def Xdq (p : Pic) : Bool := decide (1 ≤ p.Wide ∧ p.Wide ≤ 256) && (decide (1 ≤ p.High ∧ p.High ≤ 256) && ((p.Dots.size : Int) == p.Wide * p.High))
theorem Xio {w h : Int} (h1 : 1 ≤ w ∧ w ≤ 256) (h2 : 1 ≤ h ∧ h ≤ 256) : 1 ≤ w * h ∧ w * h ≤ 65536 := by
 have a : w * 1 ≤ w * h := Int.mul_le_mul_of_nonneg_left h2.1 (by omega)
 have b : w * h ≤ 256 * h := Int.mul_le_mul_of_nonneg_right h1.2 (by omega)
 omega
theorem Xci (p : Pic) : Xd6 p = some (Xdq p) := by
 unfold Xd6 Xdq
 simp only [Xaj, Xad, Xdb]
 by_cases h1 : 1 ≤ p.Wide ∧ p.Wide ≤ 256
 ·
  by_cases h2 : 1 ≤ p.High ∧ p.High ≤ 256
  ·
   have := Xio h1 h2
   rw [wkA]
  ·
   rw [decide_eq_false h2, Bool.false_and, Bool.false_and]
 ·
  rw [decide_eq_false h1, Bool.false_and, Bool.false_and]
theorem Xc4 (p : Pic) : Xcx p = some (Xdq p) := by
 unfold Xcx Xdq
 simp only [Xar, Xad, Xdb]
 by_cases h1 : 1 ≤ p.Wide ∧ p.Wide ≤ 256
 ·
  by_cases h2 : 1 ≤ p.High ∧ p.High ≤ 256
  ·
   have := Xio h1 h2
   rw [wkA]
  ·
   rw [decide_eq_false h2, Bool.false_and, Bool.false_and]
 ·
  rw [decide_eq_false h1, Bool.false_and, Bool.false_and]
def Xya (p : Pic) (s : Seq) : Bool := Xdq p && ((p.Wide == (Xja s).1) && (p.High == (Xja s).2))
theorem Xqn (p : Pic) (s : Seq) (h1 : s.Cols.length ≤ maxLen) (h2 : s.Rows.length ≤ maxLen) : Xrt p s = some (Xya p s) := by
 unfold Xrt Xya
 simp only [Yof s h1 h2, Xc4, Xad, Xdb]
theorem Xrf (r : Rate) : Xkh r = some (Xok r) := by
 unfold Xkh Xok
 simp only [Xaj, Xad]
 by_cases h1 : 0 ≤ r.Qp ∧ r.Qp ≤ 40
 ·
  rw [Xbo h1]
  by_cases h2 : 1 ≤ r.Target ∧ r.Target ≤ 100000
  ·
   rw [Xbo h2, wkA, wkA, Xad]
   simp only [h1.1, h1.2, h2.1, h2.2, true_and]
  ·
   rw [Xav h2, Xad]; congr 1; symm; rw [decide_eq_false_iff_not]; exact fun h => h2 ⟨h.2.2.1, h.2.2.2.1⟩
 ·
  rw [Xav h1, Xad]; congr 1; symm; rw [decide_eq_false_iff_not]; exact fun h => h1 ⟨h.1, h.2.1⟩
def Xc5 (s : Source) : Bool :=
 decide (Xb2 s.Seq = 1) && Xuc s.Par && Xok s.Rate && decide (0 ≤ s.Frame ∧ s.Frame < 2 ^ s.Seq.Bits.toNat) && decide ((1 ≤ s.Every ∧ s.Every ≤ 1000) ∧ (0 ≤ s.Since ∧ s.Since ≤ 1000) ∧ (0 ≤ s.Reach ∧ s.Reach ≤ 4)) &&
 (if s.Has = true then Xya s.Ref s.Seq else decide (s.Ref.Wide = 0 ∧ s.Ref.High = 0 ∧ s.Ref.Dots.size = 0))
theorem Yxf {b : Int} (h : 3 ≤ b ∧ b ≤ 8) : (2 : Int) ^ min b.toNat (IntKind.bits .i64) = 2 ^ b.toNat ∧ (8 : Int) ≤ 2 ^ b.toNat ∧ (2 : Int) ^ b.toNat ≤ 256 := by
 rcases (show b = 3 ∨ b = 4 ∨ b = 5 ∨ b = 6 ∨ b = 7 ∨ b = 8 by omega) with rfl | rfl | rfl | rfl | rfl | rfl <;> decide
theorem Xv3 {s : Seq} (h : Xb2 s = 1) : Xlt s = true := by
 unfold Xb2 at h
 refine Classical.byContradiction fun e => ?_
 rw [if_neg e] at h; cases h
theorem Zbj (b : ByteArray) : (b.toList == (⟨#[]⟩ : ByteArray).toList) = decide (b.size = 0) := by
 rw [ByteArray.toList_eq, ByteArray.toList_eq, Bool.eq_iff_iff]
 obtain ⟨⟨l⟩⟩ := b
 show (l == []) = true ↔ decide (l.length = 0) = true
 cases l <;> simp
theorem Xew (s : Source) (hb : (Lit.int .i64 s.Seq.Bits).wf = true) : Xgy s = some (Xc5 s) := by
 have hb' := Zho hb
 unfold Xgy Xc5
 rw [Xp3, Xad]
 by_cases h1 : Xb2 s.Seq = 1
 ·
  have hs := (Xbl (Xv3 h1)).2.2
  have hp := Yxf hs
  have e64 : Xaa .u64 s.Seq.Bits = s.Seq.Bits := by
   show IntKind.wrap .u64 s.Seq.Bits = _
   simp [IntKind.wrap, IntKind.signed, IntKind.bits]; omega
  rw [Xba (by simp [h1]), e64, rqA, hp.1, wkA, Ybv, Xad, Xrf, Xad, Ybj, Xta, Xta, Xad]
  simp only [Xaj, Xad, Xta]
  rw [decide_eq_true h1, Bool.true_and]
  cases hpar : Xuc s.Par with
  | false => rfl
  | true =>
   cases hr : Xok s.Rate with
   | false => rfl
   | true =>
    by_cases hf : 0 ≤ s.Frame ∧ s.Frame < 2 ^ s.Seq.Bits.toNat
    ·
     rw [Xba (by simp; omega), decide_eq_true hf]
     by_cases h3 : (1 ≤ s.Every ∧ s.Every ≤ 1000) ∧ (0 ≤ s.Since ∧ s.Since ≤ 1000) ∧ (0 ≤ s.Reach ∧ s.Reach ≤ 4)
     ·
      rw [Xba (by simp; omega), decide_eq_true h3, Xjr, Xad]
      cases s.Has with
      | true =>
       rw [Xa0]
       simp only [Xci, Xad, Xdb, Xya]
       rfl
      | false =>
       rw [Xay]
       simp only [Xad, Xdb]
       congr 1
       rw [Bool.eq_iff_iff]; simp
     ·
      rw [Xbk (by simp; omega), decide_eq_false h3]; simp
    ·
     rw [Xbk (by simp; omega), decide_eq_false hf]; simp
 ·
  rw [Xbk (by simpa using h1), Xad, Xa0, decide_eq_false h1]; simp
theorem Xes (s : Source) (h1 : s.Seq.Cols.length ≤ maxLen) (h2 : s.Seq.Rows.length ≤ maxLen) : Xgr s = some (Xc5 s) := by
 unfold Xgr Xc5
 rw [Xpf _ h1 h2, Xad]
 by_cases ht : Xb2 s.Seq = 1
 ·
  have hs := (Xbl (Xv3 ht)).2.2
  have hp := Yxf hs
  rw [Xba (by simp [ht]), rqA, hp.1, wkA (e := 1 * 2 ^ s.Seq.Bits.toNat), wkA, Xsz, Xad, Xq2, Xad]
  simp only [Xar, Xad, Xta]
  rw [decide_eq_true ht, Bool.true_and]
  cases hpar : Xuc s.Par with
  | false => rfl
  | true =>
   cases hr : Xok s.Rate with
   | false => rfl
   | true =>
    by_cases hf : 0 ≤ s.Frame ∧ s.Frame < 2 ^ s.Seq.Bits.toNat
    ·
     rw [decide_eq_true hf]
     by_cases h3 : (1 ≤ s.Every ∧ s.Every ≤ 1000) ∧ (0 ≤ s.Since ∧ s.Since ≤ 1000) ∧ (0 ≤ s.Reach ∧ s.Reach ≤ 4)
     ·
      rw [Xba (by simp; omega), decide_eq_true h3, Xqn _ _ h1 h2, Xad, Zbj]
      cases s.Has with
      | true => rfl
      | false =>
       rw [Xay]
       congr 1
       rw [Bool.eq_iff_iff]; simp
     ·
      rw [Xbk (by simp; omega), decide_eq_false h3]; simp
    ·
     rw [Xbk (by simp; omega), decide_eq_false hf]; simp
 ·
  rw [Xbk (by simpa using ht), Xad, Xa0, decide_eq_false ht]; simp
theorem Xtp (l : List Int) (hl : l.length ≤ 9223372036854775806) : Xmw l l = some true := by
 unfold Xmw
 rw [Xba (by simp), Xsd l.length (f := Xjm l l) (by
  intro i hi
  unfold Xjm
  rw [syA, rqA, rqA, Xba (by simp), wkA]
  rfl) (by unfold Xjm; rw [snA])]
 rfl
def Xub (k : Int) : List Int → List Int
 | [] => []
 | _ :: r => k :: Xub (k + 1) r
theorem Yve : ∀ (l : List Int) (k : Int), (Xub k l).length = l.length
 | [], _ => rfl
 | _ :: r, k => by rw [Xub, List.length_cons, List.length_cons, Yve r]
theorem Xtt (l : List Int) (k : Int) (h0 : 0 < k) (h1 : k ≤ 1000000000) (hl : l.length ≤ 100000000) : Xiw l k = some (k + l.length, Xub k l) := by
 unfold Xiw
 have key : ∀ (r a : List Int) (j : Int), 0 < j → j + r.length ≤ 2000000000 → a.length + r.length ≤ 100000000 → loop Xg4 (j, (a.length : Int), a ++ r) = some (j + r.length, a ++ Xub j r) := by
  intro r
  induction r with
  | nil =>
   intro a j hj1 hj2 hl
   refine Xf7 ?_
   unfold Xg4
   simp only [List.append_nil]
   rw [snA]
   simp [Xub]
  | cons p r ih =>
   intro a j hj1 hj2 hl
   simp only [List.length_cons] at hj2 hl ⊢
   have hcl : ∀ x : Int, (a ++ x :: r).length = a.length + (r.length + 1) := fun x => by simp
   refine lgo (y := (j + 1, ((a ++ [j]).length : Int), (a ++ [j]) ++ r)) ?_ ?_
   ·
    unfold Xg4
    simp only [Int.toNat_natCast, Yd6, hcl]
    rw [syA, rqA, rqA, wkA (e := j + 1), wkA]
    simp
   ·
    rw [ih _ (j + 1) (by omega) (by omega) (by simp; omega)]
    simp only [Xub, List.append_assoc, List.singleton_append]
    congr 2
    omega
 have := key l [] k h0 (by omega) (by simp; omega)
 simp only [List.length_nil, List.nil_append] at this
 rw [show ((k, 0, l) : Int × Int × List Int) = (k, ((0 : Nat) : Int), l) from rfl, this]
 rfl
theorem Xtr (l : List Int) (k : Int) (h0 : 0 < k) (h1 : k ≤ 1000000000) (hl : l.length ≤ 100000000) : Xiv (Xub k l) k = some (k + l.length) := by
 unfold Xiv
 have key : ∀ (r a : List Int) (j : Int), 0 < j → j + r.length ≤ 2000000000 → a.length + r.length ≤ 100000000 → loop (Xg3 (a ++ Xub j r)) (j, (a.length : Int)) = some (.out (j + r.length)) := by
  intro r
  induction r with
  | nil =>
   intro a j hj1 hj2 hl
   refine Xf7 ?_
   unfold Xg3
   simp only [Xub, List.append_nil]
   rw [snA]
   simp
  | cons p r ih =>
   intro a j hj1 hj2 hl
   simp only [List.length_cons] at hj2 hl ⊢
   have hcl : ∀ (x : Int) (r : List Int), (a ++ x :: r).length = a.length + (r.length + 1) := fun x r => by simp
   refine lgo (y := (j + 1, ((a ++ [j]).length : Int))) ?_ ?_
   ·
    unfold Xg3
    simp only [Xub, Int.toNat_natCast, Xgo, hcl, Yve]
    rw [syA, rqA, Xba (by simp), wkA (e := j + 1), wkA]
    simp
   ·
    have := ih (a ++ [j]) (j + 1) (by omega) (by omega) (by simp; omega)
    simp only [Xub]
    rw [List.append_assoc, List.singleton_append] at this
    rw [this]
    congr 2
    omega
 have := key l [] k h0 (by omega) (by simp; omega)
 simp only [List.length_nil, List.nil_append] at this
 rw [show ((k, 0) : Int × Int) = (k, ((0 : Nat) : Int)) from rfl, this]
 rfl
theorem Yk2 (s : Seq) (h1 : s.Cols.length ≤ 9223372036854775806) (h2 : s.Rows.length ≤ 9223372036854775806) : Xr4 s s = some true := by
 unfold Xr4
 simp only [Xtp _ h1, Xtp _ h2, Xad, bne_self_eq_false, Xay, Bool.not_true]
theorem Yk6 (s : Seq) (k : Int) (h0 : 0 < k) (h1 : k ≤ 100000000) (hc : s.Cols.length ≤ 100000000) (hr : s.Rows.length ≤ 100000000) : Xny s k = some (k + s.Cols.length + s.Rows.length, (⟨s.Level, s.Bits, Xub k s.Cols, Xub (k + s.Cols.length) s.Rows⟩ : Seq)) := by
 unfold Xny
 rw [Xtt _ _ h0 (by omega) hc, Xad, Xtt _ _ (by omega) (by omega) hr, Xad]
theorem Yk4 (s : Seq) (c r : List Int) (k : Int) (h0 : 0 < k) (h1 : k ≤ 100000000) (hc : c.length ≤ 100000000) (hr : r.length ≤ 100000000) (ec : s.Cols = Xub k c) (er : s.Rows = Xub (k + c.length) r) : Xnx s k = some (k + c.length + r.length) := by
 unfold Xnx
 rw [ec, Xtr _ _ h0 (by omega) hc, Xad, snA, er, Xtr _ _ (by omega) (by omega) hr, Xad, snA]
theorem Yky (p : Par) : Xr2 p p = some true := by
 unfold Xr2
 simp only [bne_self_eq_false, Xay, beq_self_eq_true, Bool.not_true]
theorem Ygn (p : Rate) : Xpo p p = some true := by
 unfold Xpo
 simp only [bne_self_eq_false, Xay]
theorem Ykz (p : Pic) : Xr3 p p = some true := by
 unfold Xr3
 simp only [bne_self_eq_false, Xay, beq_self_eq_true, Bool.not_true]
theorem Xqr (s : Source) (h1 : s.Seq.Cols.length ≤ 9223372036854775806) (h2 : s.Seq.Rows.length ≤ 9223372036854775806) : Xe4 s s = some true := by
 unfold Xe4
 simp only [Yk2 _ h1 h2, Yky, Ygn, Ykz, Xad, bne_self_eq_false, Xay, beq_self_eq_true, Bool.not_true]
theorem Xa2 (a b : List Int) : strOfNums a ++ strOfNums b = strOfNums (a ++ b) := by
 unfold strOfNums
 rw [List.map_append]
 apply ByteArray.ext
 simp
theorem Ze2 : (⟨#[]⟩ : ByteArray) = strOfNums [] := rfl
def Ywc (l : List Int) : Prop := ∀ x ∈ l, 0 ≤ x ∧ x ≤ 255
theorem Xni (l : List Int) (h : Ywc l) : Xa8 (strOfNums l) = l := by
 unfold Xa8
 rw [strOfNums_data, List.map_map]
 have : ∀ x ∈ l, ((fun b : UInt8 => (b.toNat : Int)) ∘ fun n : Int => UInt8.ofNat n.toNat) x = x := by
  intro x hx
  have := h x hx
  simp only [Function.comp_apply, UInt8.toNat_ofNat']
  omega
 rw [List.map_congr_left this, List.map_id']
theorem Yub (l : List Int) (h : Ywc l) (i : Nat) (hi : i < l.length) : Yqy (strOfNums l) (i : Int) = l.getD i 0 := by
 unfold Yqy
 rw [dif_pos (by rw [Int.toNat_natCast, strOfNums_size]; exact hi)]
 have hx := h l[i] (List.getElem_mem hi)
 rw [Xd8 l i hi]
 show ((((l.map fun n => UInt8.ofNat n.toNat).toArray)[(i : Int).toNat]'(by simpa using hi)).toNat : Int) = _
 simp only [Int.toNat_natCast, List.getElem_toArray, List.getElem_map, UInt8.toNat_ofNat']
 omega
theorem Zgw (y : Int) : IntKind.wrap .i64 (BitVec.ofInt (IntKind.bits .i64) y &&& BitVec.ofInt (IntKind.bits .i64) 1).toNat = y % 2 := by
 have h : (BitVec.ofInt 64 y &&& BitVec.ofInt 64 1).toNat = (y % 2).toNat := by
  rw [BitVec.toNat_and]
  have e1 : (BitVec.ofInt 64 1).toNat = 1 := by decide
  rw [e1, Nat.and_one_is_mod, BitVec.toNat_ofInt]
  omega
 show IntKind.wrap .i64 ((BitVec.ofInt 64 y &&& BitVec.ofInt 64 1).toNat : Int) = _
 rw [h, ← Xwn, wkA]
 omega
def Ynt : Nat → Int → List Int
 | 0, _ => []
 | w + 1, n => Ynt w (n / 2) ++ [48 + n % 2]
theorem Xeo : ∀ (w : Nat) (n : Int), (Ynt w n).length = w
 | 0, _ => rfl
 | w + 1, n => by rw [Ynt, List.length_append, Xeo w]; rfl
def Xua (l : List Int) : Prop := ∀ x ∈ l, x = 48 ∨ x = 49
theorem Xa5 {a b : List Int} (ha : Xua a) (hb : Xua b) : Xua (a ++ b) := fun x hx => (List.mem_append.1 hx).elim (ha x) (hb x)
theorem Yxe (n : Nat) : Xua (List.replicate n 48) := fun x hx => .inl (List.eq_of_mem_replicate hx)
theorem Xfu {l : List Int} (h : Xua l) : Ywc l := fun x hx => by rcases h x hx with e | e <;> omega
theorem Xsr : Xua [] := fun x hx => by simp at hx
theorem Yiq : ∀ (w : Nat) (n : Int), Xua (Ynt w n)
 | 0, _ => Xsr
 | w + 1, n => Xa5 (Yiq w (n / 2)) (fun x hx => by rw [List.mem_singleton.1 hx]; omega)
theorem Yzo (w : Nat) : ∀ (k : Nat) (n : Int) (s : List Int), 0 ≤ n → n ≤ 9223372036854775807 → k + s.length ≤ 100000 → loop Xln (n, (k : Int) - 1, List.replicate k 0 ++ s) = some (Ynt k n ++ s) := by
 intro k
 induction k with
 | zero =>
  intro n s h0 h1 hl
  refine Xf7 ?_
  unfold Xln
  simp only
  rw [snA]
  simp [Ynt]
 | succ k ih =>
  intro n s h0 h1 hl
  have e1 : List.replicate (k + 1) (0 : Int) ++ s = List.replicate k 0 ++ 0 :: s := by rw [List.replicate_succ', List.append_assoc]; rfl
  have e2 := Yd6 (List.replicate k (0 : Int)) 0 (48 + n % 2) s
  rw [List.length_replicate] at e2
  refine lgo (y := (n / 2, (k : Int) - 1, List.replicate k 0 ++ (48 + n % 2) :: s)) ?_ ?_
  ·
   unfold Xln
   have e3 : (((k + 1 : Nat) : Int) - 1).toNat = k := by omega
   simp only [e1, e3]
   rw [syA, Xaz (by simp; omega), Xaz (by simp), Xaz (by decide), Zgw, wkA (e := 48 + n % 2), w8 (by omega) (by omega), e2, wkA]
   rw [show ((k + 1 : Nat) : Int) - 1 - 1 = (k : Int) - 1 by omega]
   rfl
  ·
   rw [ih (n / 2) ((48 + n % 2) :: s) (by omega) (by omega) (by simp; omega), Ynt, List.append_assoc]; rfl
theorem Xou (n : Int) (w : Nat) (h0 : 0 ≤ n) (h1 : n ≤ 9223372036854775807) (hw : w ≤ 1000) : Xkx n (w : Int) = some (strOfNums (Ynt w n)) := by
 unfold Xkx
 rw [rqA, wkA, Int.toNat_natCast]
 have := Yzo w w n [] h0 h1 (by simp; omega)
 rw [List.append_nil, List.append_nil] at this
 rw [this, Xad]
theorem Zck : ∀ (k : Nat) (n : Int) (s : List Int), 0 ≤ n → n ≤ 9223372036854775807 → k + s.length ≤ 100000 → loop Xju (n, (k : Int) - 1, List.replicate k 0 ++ s) = some (Ynt k n ++ s) := by
 intro k
 induction k with
 | zero =>
  intro n s h0 h1 hl
  refine Xf7 ?_
  unfold Xju
  simp only
  rw [snA]
  simp [Ynt]
 | succ k ih =>
  intro n s h0 h1 hl
  have e1 : List.replicate (k + 1) (0 : Int) ++ s = List.replicate k 0 ++ 0 :: s := by rw [List.replicate_succ', List.append_assoc]; rfl
  have e2 := Yd6 (List.replicate k (0 : Int)) 0 (48 + n % 2) s
  rw [List.length_replicate] at e2
  refine lgo (y := (n / 2, (k : Int) - 1, List.replicate k 0 ++ (48 + n % 2) :: s)) ?_ ?_
  ·
   unfold Xju
   have e3 : (((k + 1 : Nat) : Int) - 1).toNat = k := by omega
   simp only [e1, e3]
   rw [syA, Xaz (by decide), Xaz (by simp; omega), Xaz (by simp), Xaz (by decide), Xb3 h0, Xbp h0, wkA (e := 48 + n % 2), w8 (by omega) (by omega), e2, wkA, wkA]
   rw [show ((k + 1 : Nat) : Int) - 1 - 1 = (k : Int) - 1 by omega]
  ·
   rw [ih (n / 2) ((48 + n % 2) :: s) (by omega) (by omega) (by simp; omega), Ynt, List.append_assoc]; rfl
theorem Xrj (n : Int) (w : Nat) (h0 : 0 ≤ n) (h1 : n ≤ 9223372036854775807) (hw : w ≤ 1000) : Xkj n (w : Int) = some (strOfNums (Ynt w n)) := by
 unfold Xkj
 rw [rqA, wkA, Int.toNat_natCast]
 have := Zck w n [] h0 h1 (by simp; omega)
 rw [List.append_nil, List.append_nil] at this
 rw [this, Xad]
def Yip (m : Nat) : Nat := if h : m = 0 then 0 else Yip (m / 2) + 1
termination_by m
decreasing_by omega
def Yz1 (m : Nat) : List Int := if h : m = 0 then [] else Yz1 (m / 2) ++ [48 + ((m % 2 : Nat) : Int)]
termination_by m
decreasing_by omega
theorem Yxd (m : Nat) : (Yz1 m).length = Yip m := by
 induction m using Nat.strongRecOn with
 | _ m ih =>
  rw [Yz1, Yip]
  by_cases h : m = 0
  ·
   rw [dif_pos h, dif_pos h]; rfl
  ·
   rw [dif_neg h, dif_neg h, List.length_append, ih (m / 2) (by omega)]; rfl
theorem Ywh {m j : Nat} (h : m < 2 ^ j) : Yip m ≤ j := by
 induction j generalizing m with
 | zero => rw [Yip, dif_pos (by simp at h; omega)]; omega
 | succ j ih =>
  rw [Yip]
  split
  ·
   omega
  ·
   have := ih (m := m / 2) (by rw [Nat.pow_succ] at h; omega)
   omega
theorem Yru {m : Nat} (h : 0 < m) : 1 ≤ Yip m := by rw [Yip, dif_neg (by omega)]; omega
theorem Zcd (m : Nat) : Xua (Yz1 m) := by
 induction m using Nat.strongRecOn with
 | _ m ih =>
  rw [Yz1]
  by_cases h : m = 0
  ·
   rw [dif_pos h]; exact Xsr
  ·
   rw [dif_neg h]; exact Xa5 (ih (m / 2) (by omega)) (fun x hx => by rw [List.mem_singleton.1 hx]; omega)
theorem Zcj (z m : Nat) : Ynt (Yip m + z) m = List.replicate z 48 ++ Yz1 m := by
 induction m using Nat.strongRecOn with
 | _ m ih =>
  rw [Yz1, Yip]
  by_cases h : m = 0
  ·
   rw [dif_pos h, dif_pos h, h, List.append_nil, Nat.zero_add]
   clear ih h
   induction z with
   | zero => rfl
   | succ z iz => rw [Ynt, show ((0 : Nat) : Int) / 2 = ((0 : Nat) : Int) from rfl, iz, List.replicate_succ']; rfl
  ·
   rw [dif_neg h, dif_neg h, show Yip (m / 2) + 1 + z = Yip (m / 2) + z + 1 by omega, Ynt, show (m : Int) / 2 = ((m / 2 : Nat) : Int) by omega, ih (m / 2) (by omega), List.append_assoc, show (m : Int) % 2 = ((m % 2 : Nat) : Int) by omega]
def ueL (n : Nat) : List Int := List.replicate (Yip (n + 1) - 1) 48 ++ Yz1 (n + 1)
theorem Xg0 (n : Nat) : Xua (ueL n) := Xa5 (Yxe _) (Zcd _)
theorem Xcv (n : Nat) (h : n ≤ 1000000) : (ueL n).length ≤ 39 ∧ 1 ≤ (ueL n).length := by
 unfold ueL
 rw [List.length_append, List.length_replicate, Yxd]
 have := Ywh (m := n + 1) (j := 20) (by omega)
 have := Yru (m := n + 1) (by omega)
 omega
theorem Yns : ∀ (m : Nat) (k : Int), 0 ≤ k → k ≤ 1000 → m ≤ 9223372036854775807 → loop Xcy ((m : Int), k) = some (k + Yip m) := by
 have main : ∀ (j m : Nat) (k : Int), m < 2 ^ j → j ≤ 63 → 0 ≤ k → k + j ≤ 2000 → loop Xcy ((m : Int), k) = some (k + Yip m) := by
  intro j
  induction j with
  | zero =>
   intro m k hm _ _ _
   have : m = 0 := by simp at hm; omega
   subst this
   refine Xf7 ?_
   unfold Xcy
   simp only
   rw [snA, Yip, dif_pos rfl]; simp
  | succ j ih =>
   intro m k hm hj h0 h1
   by_cases h : m = 0
   ·
    subst h
    refine Xf7 ?_
    unfold Xcy
    simp only
    rw [snA, Yip, dif_pos rfl]; simp
   ·
    refine lgo (y := (((m / 2 : Nat) : Int), k + 1)) ?_ ?_
    ·
     unfold Xcy
     simp only
     rw [syA, Xaz (by decide), wkA]
     show some (Lp.go ((m : Int) / 2, k + 1)) = _
     congr 3
    ·
     rw [ih (m / 2) (k + 1) (by rw [Nat.pow_succ] at hm; omega) (by omega) (by omega) (by omega), Yip.eq_def m, dif_neg h]
     congr 1; omega
 intro m k h0 h1 hm
 exact main 63 m k (by omega) (by omega) h0 (by omega)
theorem Xf3 (n : Nat) (h : n ≤ 1000000) : Xi8 (n : Int) = some (strOfNums (ueL n)) := by
 unfold Xi8 Xnf
 rw [wkA (e := (n : Int) + 1)]
 have := Yns (n + 1) 0 (by omega) (by omega) (by omega)
 rw [show ((n + 1 : Nat) : Int) = (n : Int) + 1 by omega, Int.zero_add] at this
 rw [this, Xad, Xad]
 have h1 := Ywh (m := n + 1) (j := 20) (by omega)
 have h2 := Yru (m := n + 1) (by omega)
 rw [wkA (e := 2 * (Yip (n + 1) : Int)), wkA, show 2 * (Yip (n + 1) : Int) - 1 = ((Yip (n + 1) + (Yip (n + 1) - 1) : Nat) : Int) by omega, Xou _ _ (by omega) (by omega) (by omega), Xad,
  show (n : Int) + 1 = ((n + 1 : Nat) : Int) by omega, Zcj]
 rfl
theorem Xve (n : Nat) (x : Int) (h : n ≤ 1000000000) : Xk1 (n : Int) x = some (strOfNums (List.replicate n x)) := by
 unfold Xk1
 rw [rqA, Int.toNat_natCast]
 have key : ∀ (k a : Nat), k + a = n → loop (Xie (n : Int) x) ((a : Int), List.replicate a x ++ List.replicate k 0) = some (List.replicate n x) := by
  intro k
  induction k with
  | zero =>
   intro a ha
   refine Xf7 ?_
   unfold Xie
   simp only
   rw [snA]
   simp; omega
  | succ k ih =>
   intro a ha
   have e2 := Yd6 (List.replicate a x) 0 x (List.replicate k 0)
   rw [List.length_replicate] at e2
   refine lgo (y := (((a + 1 : Nat) : Int), List.replicate (a + 1) x ++ List.replicate k 0)) ?_ (ih (a + 1) (by omega))
   unfold Xie
   simp only [List.replicate_succ (n := k), Int.toNat_natCast]
   rw [syA, Xaz (by simp; omega), Xaz (by simp), e2, wkA, List.replicate_succ' (n := a), List.append_assoc]
   rfl
 have := key n 0 rfl
 rw [List.replicate_zero, List.nil_append] at this
 exact Xip this
theorem Xck (n : Nat) (h : n ≤ 1000000) : Xcm (n : Int) = some (strOfNums (ueL n)) := by
 have main : ∀ (j m : Nat) (s : List Int), m < 2 ^ j → j ≤ 63 → s.length + j ≤ 1000 → loop Xi3 ((m : Int), strOfNums s) = some (strOfNums (Yz1 m ++ s)) := by
  intro j
  induction j with
  | zero =>
   intro m s hm _ _
   have : m = 0 := by simp at hm; omega
   subst this
   refine Xf7 ?_
   unfold Xi3
   simp only
   rw [snA, Yz1, dif_pos rfl]; rfl
  | succ j ih =>
   intro m s hm hj hl
   by_cases h : m = 0
   ·
    subst h
    refine Xf7 ?_
    unfold Xi3
    simp only
    rw [snA, Yz1, dif_pos rfl]; rfl
   ·
    have hlt : (m : Int) < 2 ^ (j + 1) := by exact_mod_cast hm
    have hle : (2 : Int) ^ (j + 1) ≤ 2 ^ 63 := by
     have := Nat.pow_le_pow_right (n := 2) (by omega) hj
     exact_mod_cast this
    have hbd : (m : Int) < 9223372036854775808 := Int.lt_of_lt_of_le hlt (by simpa using hle)
    refine lgo (y := (((m / 2 : Nat) : Int), strOfNums ((48 + ((m % 2 : Nat) : Int)) :: s))) ?_ ?_
    ·
     unfold Xi3
     simp only
     rw [syA, Xaz (by decide), Xb3 (by omega), Xbp (by omega), wkA (e := 48 + (m : Int) % 2), w8 (by omega) (by omega), Xaz (by simp only [strOfNums_size, List.length_singleton]; omega), Xaz (by decide), wkA, Xa2]
     congr 3
    ·
     rw [ih (m / 2) _ (by rw [Nat.pow_succ] at hm; omega) (by omega) (by simp; omega)]
     conv => rhs; rw [Yz1, dif_neg h]
     rw [List.append_assoc]; rfl
 unfold Xcm
 have h1 := Ywh (m := n + 1) (j := 20) (by omega)
 have h2 := Yru (m := n + 1) (by omega)
 rw [wkA (e := (n : Int) + 1), Ze2, show (n : Int) + 1 = ((n + 1 : Nat) : Int) by omega, main 63 (n + 1) [] (by omega) (by omega) (by simp), Xad, List.append_nil, strOfNums_size, Yxd, wkA, show (Yip (n + 1) : Int) - 1 = ((Yip (n + 1) - 1 : Nat) : Int) by omega, Xve _ _ (by omega), Xad,
  Xaz (by simp only [strOfNums_size, List.length_replicate]; omega), Xa2]
 rfl
theorem Zce (x : Int) (h : x = 48 ∨ x = 49) : ((x != 48) && (x != 49)) = false := by rcases h with rfl | rfl <;> rfl
theorem Yyf (l : List Int) (hl : Xua l) (hn : l.length ≤ 9223372036854775806) (f : Int → Option (Lp Int (Ou Unit Bool)))
  (h : ∀ i : Nat, i < l.length → f (i : Int) = sel (((l.getD i 0) != 48) && ((l.getD i 0) != 49)) (some (.done (.ret false))) (some (.go ((i + 1 : Nat) : Int)))) (h0 : f (l.length : Int) = some (.done (.out ()))) : loop f 0 = some (.out ()) :=
 Xsd l.length (fun i hi => by rw [h i hi, Zce _ (by rw [Xd8 l i hi]; exact hl _ (List.getElem_mem hi)), Xay]) h0
theorem Yp8 (l : List Int) (hl : Xua l) (hn : l.length ≤ 9223372036854775806) : Xp4 (strOfNums l) = some true := by
 unfold Xp4
 rw [Yyf l hl hn (Xjv (strOfNums l)) (fun i hi => by
  unfold Xjv
  rw [strOfNums_size, Yub l (Xfu hl) i hi, syA, rqA, rqA, Xdb, Xad, wkA]; rfl) (by
  unfold Xjv; rw [strOfNums_size, snA])]
 rfl
theorem Ytp (l : List Int) (hl : Xua l) (hn : l.length ≤ 400000) : Xsg (strOfNums l) = some true := by
 unfold Xsg
 rw [strOfNums_size, syA, Yp8 l hl (by omega), Xad, Xad]
theorem Yr5 (l : List Int) (hl : Xua l) (hn : l.length ≤ 400000) : Xrr (strOfNums l) = some true := by
 unfold Xrr
 rw [strOfNums_size, snA, Yyf l hl (by omega) (Xlf (strOfNums l)) (fun i hi => by
  unfold Xlf
  rw [strOfNums_size, Yub l (Xfu hl) i hi, syA, rqA, rqA, Xdb, Xad, wkA]; rfl) (by
  unfold Xlf; rw [strOfNums_size, snA])]
 rfl
def Xzs (l : List Int) : Int := l.foldl (fun x b => 2 * x + b - 48) 0
def Xi5 : Nat → List Int → List Int
 | 0, _ => []
 | n + 1, l => Xzs (l.take 8) :: Xi5 n (l.drop 8)
theorem Xv7 : ∀ (n : Nat) (l : List Int), (Xi5 n l).length = n
 | 0, _ => rfl
 | n + 1, l => by rw [Xi5, List.length_cons, Xv7 n]
def Zbz (l : List Int) : List Int := Xi5 (l.length / 8 + 1) (l ++ 49 :: List.replicate (8 * (l.length / 8 + 1) - l.length - 1) 48)
theorem Zfg (l : List Int) : ∀ x : Int, l.foldl (fun x b => 2 * x + b - 48) x = x * 2 ^ l.length + Xzs l := by
 induction l with
 | nil => intro x; simp [Xzs]
 | cons b l ih =>
  intro x
  unfold Xzs
  rw [List.foldl_cons, List.foldl_cons, ih, ih (2 * 0 + b - 48), List.length_cons, Int.pow_succ]
  have e1 : (2 * x + b - 48) * 2 ^ l.length = 2 * (x * 2 ^ l.length) + (b - 48) * 2 ^ l.length := by
   rw [show 2 * x + b - 48 = 2 * x + (b - 48) by omega, Int.add_mul, Int.mul_assoc]
  have e2 : x * (2 ^ l.length * 2) = 2 * (x * 2 ^ l.length) := by rw [← Int.mul_assoc, Int.mul_comm]
  rw [e1, e2, show (2 : Int) * 0 + b - 48 = b - 48 by omega]
  omega
theorem Ye2 (a b : List Int) : Xzs (a ++ b) = Xzs a * 2 ^ b.length + Xzs b := by
 show (a ++ b).foldl _ 0 = _
 rw [List.foldl_append]
 exact Zfg b (Xzs a)
theorem Yw9 (z : Nat) : Xzs (List.replicate z 48) = 0 := by
 induction z with
 | zero => rfl
 | succ z ih => rw [List.replicate_succ', Ye2, ih]; rfl
theorem Yni {l : List Int} (h : Xua l) : 0 ≤ Xzs l ∧ Xzs l < 2 ^ l.length := by
 induction l with
 | nil => simp [Xzs]
 | cons b l ih =>
  have h1 := ih (fun x hx => h x (by simp [hx]))
  have h2 := h b (by simp)
  rw [show b :: l = [b] ++ l from rfl, Ye2, List.length_append, Int.pow_add, show Xzs [b] = b - 48 by simp [Xzs]]
  have : (2 : Int) ^ [b].length = 2 := rfl
  rw [this]
  rcases h2 with rfl | rfl <;> omega
theorem Zfy : ∀ (x : Fin 256) (k : Fin 8), x.val % 2 ^ (8 - k.val) = 0 → (BitVec.ofNat 8 x.val ||| BitVec.ofNat 8 (128 / 2 ^ k.val)).toNat = x.val + 2 ^ (7 - k.val) := by decide +kernel
theorem Zfz (x : Int) (k : Nat) (h0 : 0 ≤ x) (h1 : x ≤ 255) (hk : k < 8) (hx : x % 2 ^ (8 - k) = 0) : IntKind.wrap .u8 (BitVec.ofInt (IntKind.bits .u8) x ||| BitVec.ofInt (IntKind.bits .u8) ((128 : Int) / 2 ^ min k (IntKind.bits .u8))).toNat = x + 2 ^ (7 - k) := by
 obtain ⟨n, rfl⟩ : ∃ n : Nat, x = n := ⟨x.toNat, by omega⟩
 have hm : min k (IntKind.bits .u8) = k := by show min k 8 = k; omega
 have hn : n % 2 ^ (8 - k) = 0 := by exact_mod_cast hx
 have := Zfy ⟨n, by omega⟩ ⟨k, hk⟩ hn
 simp only at this
 rw [hm]
 have e1 : BitVec.ofInt 8 ((128 : Int) / 2 ^ k) = BitVec.ofNat 8 (128 / 2 ^ k) := by
  rw [show ((128 : Int) / 2 ^ k) = ((128 / 2 ^ k : Nat) : Int) by push_cast; rfl, BitVec.ofInt_natCast]
 have e2 : BitVec.ofInt 8 (n : Int) = BitVec.ofNat 8 n := BitVec.ofInt_natCast ..
 show IntKind.wrap .u8 ((BitVec.ofInt 8 (n : Int) ||| BitVec.ofInt 8 ((128 : Int) / 2 ^ k)).toNat : Int) = _
 rw [e1, e2, this, ← Xwn]
 have hp : n + 2 ^ (7 - k) ≤ 255 := by
  have : n + 2 ^ (7 - k) < 256 := by rw [← this]; exact (BitVec.ofNat 8 n ||| BitVec.ofNat 8 (128 / 2 ^ k)).isLt
  omega
 rw [w8 (by omega) (by omega)]
 push_cast; rfl
theorem Ycp : ∀ (m : Nat) (L : List Int), Xua L → L.length < 8 * m → Xi5 m (L ++ 49 :: List.replicate (8 * m - L.length - 1) 48) = (Xi5 m (L ++ List.replicate (8 * m - L.length) 48)).set (L.length / 8) ((Xi5 m (L ++ List.replicate (8 * m - L.length) 48)).getD (L.length / 8) 0 + 2 ^ (7 - L.length % 8)) ∧
  (Xi5 m (L ++ List.replicate (8 * m - L.length) 48)).getD (L.length / 8) 0 % 2 ^ (8 - L.length % 8) = 0 ∧ 0 ≤ (Xi5 m (L ++ List.replicate (8 * m - L.length) 48)).getD (L.length / 8) 0 ∧ (Xi5 m (L ++ List.replicate (8 * m - L.length) 48)).getD (L.length / 8) 0 ≤ 255
 | 0, L, _, h => by omega
 | m + 1, L, hb, h => by
  by_cases h8 : L.length < 8
  ·
   have e0 : L.length / 8 = 0 := by omega
   have em : L.length % 8 = L.length := by omega
   have t1 : (L ++ List.replicate (8 * (m + 1) - L.length) 48).take 8 = L ++ List.replicate (8 - L.length) 48 := by
    rw [List.take_append, List.take_of_length_le (by omega), List.take_replicate]; congr 2; omega
   have d1 : (L ++ List.replicate (8 * (m + 1) - L.length) 48).drop 8 = List.replicate (8 * m) (48 : Int) := by
    rw [List.drop_append, List.drop_eq_nil_of_le (by omega), List.nil_append, List.drop_replicate]; congr 1; omega
   have t2 : (L ++ 49 :: List.replicate (8 * (m + 1) - L.length - 1) 48).take 8 = L ++ 49 :: List.replicate (8 - L.length - 1) 48 := by
    rw [List.take_append, List.take_of_length_le (by omega), show 8 - L.length = (8 - L.length - 1) + 1 by omega, List.take_succ_cons, List.take_replicate]; congr 3; omega
   have d2 : (L ++ 49 :: List.replicate (8 * (m + 1) - L.length - 1) 48).drop 8 = List.replicate (8 * m) (48 : Int) := by
    rw [List.drop_append, List.drop_eq_nil_of_le (by omega), List.nil_append, show 8 - L.length = (8 - L.length - 1) + 1 by omega, List.drop_succ_cons, List.drop_replicate]; congr 1; omega
   have r := Yni hb
   have v1 : Xzs (L ++ List.replicate (8 - L.length) 48) = Xzs L * 2 ^ (8 - L.length) := by rw [Ye2, Yw9, List.length_replicate, Int.add_zero]
   have v2 : Xzs (L ++ 49 :: List.replicate (8 - L.length - 1) 48) = Xzs L * 2 ^ (8 - L.length) + 2 ^ (7 - L.length) := by
    rw [Ye2, show (49 : Int) :: List.replicate (8 - L.length - 1) 48 = [49] ++ List.replicate (8 - L.length - 1) 48 from rfl, Ye2, Yw9, Int.add_zero, List.length_append, List.length_replicate, show [(49 : Int)].length = 1 from rfl, show 1 + (8 - L.length - 1) = 8 - L.length by omega, show 8 - L.length - 1 = 7 - L.length by omega]
    show _ + Xzs [49] * _ = _
    rw [show Xzs [49] = 1 from rfl, Int.one_mul]
   rw [Xi5, Xi5, t1, d1, t2, d2, v1, v2, e0, em, List.getD_cons_zero, List.set_cons_zero]
   refine ⟨rfl, Int.mul_emod_left _ _, Int.mul_nonneg r.1 (Int.pow_nonneg (by decide)), ?_⟩
   have : (Xzs L + 1) * 2 ^ (8 - L.length) ≤ 2 ^ L.length * 2 ^ (8 - L.length) := Int.mul_le_mul_of_nonneg_right (by omega) (Int.pow_nonneg (by decide))
   rw [← Int.pow_add, show L.length + (8 - L.length) = 8 by omega, Int.add_mul, Int.one_mul] at this
   have hp : (1 : Int) ≤ 2 ^ (8 - L.length) := Int.pow_pos (by decide)
   have : (2 : Int) ^ 8 = 256 := by decide
   omega
  ·
   have hsp : L = L.take 8 ++ L.drop 8 := (List.take_append_drop 8 L).symm
   have hl8 : (L.take 8).length = 8 := by rw [List.length_take]; omega
   have hd : (L.drop 8).length = L.length - 8 := by rw [List.length_drop]
   have ih := Ycp m (L.drop 8) (fun x hx => hb x (List.mem_of_mem_drop hx)) (by omega)
   rw [hd] at ih
   have tk : ∀ s : List Int, (L ++ s).take 8 = L.take 8 := fun s => by rw [List.take_append, show 8 - L.length = 0 by omega, List.take_zero, List.append_nil]
   have dr : ∀ s : List Int, (L ++ s).drop 8 = L.drop 8 ++ s := fun s => by rw [List.drop_append, show 8 - L.length = 0 by omega, List.drop_zero]
   rw [Xi5, Xi5, tk, tk, dr, dr, show L.length / 8 = (L.length - 8) / 8 + 1 by omega, List.getD_cons_succ, List.set_cons_succ, show L.length % 8 = (L.length - 8) % 8 by omega, show 8 * (m + 1) - L.length = 8 * m - (L.length - 8) by omega]
   exact ⟨by rw [ih.1], ih.2⟩
theorem Yy9 (m : Nat) : Xi5 m (List.replicate (8 * m) 48) = List.replicate m 0 := by
 induction m with
 | zero => rfl
 | succ m ih =>
  rw [Xi5, List.take_replicate, List.drop_replicate, show 8 * (m + 1) - 8 = 8 * m by omega, ih, Yw9, List.replicate_succ]
theorem Yy8 (m : Nat) (L : List Int) (h : L.length < 8 * m) : L ++ 48 :: List.replicate (8 * m - L.length - 1) 48 = L ++ List.replicate (8 * m - L.length) 48 := by
 congr 1
 rw [← List.replicate_succ]; congr 1; omega
theorem Yf8 (l : List Int) (hl : Xua l) (hn : l.length ≤ 400000) : Xle (strOfNums l) = some (strOfNums (Zbz l), true) := by
 have hm' : maxLen = 9223372036854775807 := rfl
 unfold Xle
 rw [Yr5 l hl hn, Xad, Xs9, Xa0, Xaz (by decide), strOfNums_size, Xbp (by omega), show (l.length : Int) / 8 = ((l.length / 8 : Nat) : Int) by omega, wkA (e := ((l.length / 8 : Nat) : Int)), wkA (e := ((l.length / 8 : Nat) : Int) + 1), rqA,
  show (((l.length / 8 : Nat) : Int) + 1).toNat = l.length / 8 + 1 by omega]
 generalize hm : l.length / 8 + 1 = m
 have key : ∀ (r a : List Int), l = a ++ r → loop (Xg2 (strOfNums l)) ((a.length : Int), Xi5 m (a ++ List.replicate (8 * m - a.length) 48)) = some (Xi5 m (l ++ List.replicate (8 * m - l.length) 48)) := by
  intro r
  induction r with
  | nil =>
   intro a ha
   rw [List.append_nil] at ha
   rw [← ha]
   refine Xf7 ?_
   unfold Xg2
   simp only
   rw [strOfNums_size, snA]
  | cons x r ih =>
   intro a ha
   have hlen : a.length < l.length := by rw [ha]; simp
   have hx : l.getD a.length 0 = x := by rw [ha]; exact Xgo a x _ r
   have hb : x = 48 ∨ x = 49 := hl x (by rw [ha]; simp)
   have ha8 : a.length < 8 * m := by omega
   have hab : Xua a := fun y hy => hl y (by rw [ha]; simp [hy])
   obtain ⟨c1, c2, c3, c4⟩ := Ycp m a hab ha8
   have hcl := Xv7 m (a ++ List.replicate (8 * m - a.length) 48)
   have hnext := ih (a ++ [x]) (by rw [ha]; simp)
   rw [List.length_append, List.length_singleton] at hnext
   refine lgo (y := (((a.length + 1 : Nat) : Int), Xi5 m (a ++ [x] ++ List.replicate (8 * m - (a.length + 1)) 48))) ?_ hnext
   unfold Xg2
   simp only
   rw [strOfNums_size, syA, Yub l (Xfu hl) _ hlen, hx, wkA (e := (a.length : Int) + 1), Xbp (by omega), Xb3 (by omega), show (a.length : Int) / 8 = ((a.length / 8 : Nat) : Int) by omega, show (a.length : Int) % 8 = ((a.length % 8 : Nat) : Int) by omega,
    wkA (e := ((a.length / 8 : Nat) : Int)), Int.toNat_natCast, Int.toNat_natCast, rqA]
   rw [List.append_assoc, List.singleton_append, Nat.sub_add_eq]
   rcases hb with rfl | rfl
   ·
    rw [Xba (by decide), Xad, Yy8 m a ha8]; rfl
   ·
    rw [Xbk (by decide), Xaz (by decide), rqA, rqA, Xaz (by decide), rqA, rqA, rqA, Xad, Zfz _ _ c3 c4 (by omega) c2, c1]; rfl
 have := key l [] rfl
 rw [List.nil_append, List.length_nil, Nat.sub_zero, Yy9] at this
 refine (Xip this).trans ?_
 have hl8 : l.length < 8 * m := by omega
 obtain ⟨c1, c2, c3, c4⟩ := Ycp m l hl hl8
 have hcl := Xv7 m (l ++ List.replicate (8 * m - l.length) 48)
 rw [Xaz (by decide), rqA, Int.toNat_natCast, rqA, Xaz (by decide), Xb3 (by omega), rqA, rqA, rqA, show ((l.length : Int) % 8).toNat = l.length % 8 by omega, Zfz _ _ c3 c4 (by omega) c2, ← c1]
 unfold Zbz
 rw [hm]
theorem Zbu (v : List Int) (i : Nat) (out : List Int) (c : List Int) (hc : (v.drop i).take 8 = c) (h8 : c.length = 8) (hb : Xua c) (hn : v.length ≤ 1000000) (hi : i + 8 ≤ v.length) : loop (Xd7 v ((i : Int), out)) (0, 0) = some (Xzs c) := by
 have key : ∀ (r a : List Int), c = a ++ r → loop (Xd7 v ((i : Int), out)) (Xzs a, (a.length : Int)) = some (Xzs c) := by
  intro r
  induction r with
  | nil =>
   intro a ha
   rw [List.append_nil] at ha
   refine Xf7 ?_
   unfold Xd7
   simp only
   rw [Xav (by rw [← ha]; omega), ha]
  | cons x r ih =>
   intro a ha
   have hlen : a.length < 8 := by rw [← h8, ha]; simp
   have hx : v.getD (i + a.length) 0 = x := by
    have h1 : c.getD a.length 0 = x := by rw [ha]; exact Xgo a x _ r
    rw [← h1, ← hc]
    rw [List.getD_eq_getElem?_getD, List.getD_eq_getElem?_getD, List.getElem?_take_of_lt hlen, List.getElem?_drop]
   have hab : Xua a := fun y hy => hb y (by rw [ha]; simp [hy])
   have hr := Yni hab
   have hp : (2 : Int) ^ a.length ≤ 2 ^ 8 := by
    have := Nat.pow_le_pow_right (n := 2) (by omega) (show a.length ≤ 8 by omega)
    exact_mod_cast this
   have h256 : (2 : Int) ^ 8 = 256 := by decide
   have hxb : x = 48 ∨ x = 49 := hb x (by rw [ha]; simp)
   have hnext := ih (a ++ [x]) (by rw [ha]; simp)
   rw [List.length_append, List.length_singleton] at hnext
   refine lgo (y := (Xzs (a ++ [x]), ((a.length + 1 : Nat) : Int))) ?_ hnext
   unfold Xd7
   simp only
   rw [syA, wkA (e := (i : Int) + a.length), rqA, rqA, show ((i : Int) + (a.length : Int)).toNat = i + a.length by omega, hx, wkA (e := (a.length : Int) + 1), wkA (e := x), wkA (e := 2 * Xzs a), wkA (e := 2 * Xzs a + x), wkA,
    Ye2, show Xzs [x] = x - 48 by simp [Xzs], show [x].length = 1 from rfl, Int.pow_one]
   congr 4
   omega
 have := key c [] rfl
 exact this
theorem Yy7 (v : List Int) (hb : Xua v) (hn : v.length ≤ 1000000) : ∀ (m i : Nat) (out : List Int), i + 8 * m = v.length → out.length ≤ i → loop (Xge v) ((i : Int), out) = some (out ++ Xi5 m (v.drop i)) := by
 have hm' : maxLen = 9223372036854775807 := rfl
 intro m
 induction m with
 | zero =>
  intro i out hi _
  refine Xf7 ?_
  unfold Xge
  simp only
  rw [snA]; simp [Xi5]
 | succ m ih =>
  intro i out hi ho
  have hlen : ((v.drop i).take 8).length = 8 := by rw [List.length_take, List.length_drop]; omega
  have hcb : Xua ((v.drop i).take 8) := fun x hx => hb x (List.mem_of_mem_drop (List.mem_of_mem_take hx))
  have hr := Yni hcb
  rw [hlen, show (2 : Int) ^ 8 = 256 by decide] at hr
  refine lgo (y := (((i + 8 : Nat) : Int), out ++ [Xzs ((v.drop i).take 8)])) ?_ ?_
  ·
   unfold Xge
   simp only
   rw [syA, Zbu v i out _ rfl hlen hcb hn (by omega), Xad, w8 (by omega) (by omega), Xaz (by simp only [List.length_singleton]; omega), wkA]
   rfl
  ·
   rw [ih (i + 8) _ (by omega) (by simp; omega), Xi5, List.drop_drop, List.append_assoc]; rfl
theorem Yht (l : List Int) (hl : Xua l) (hn : l.length ≤ 400000) : Xl0 (strOfNums l) = some (strOfNums (Zbz l)) := by
 have hm' : maxLen = 9223372036854775807 := rfl
 unfold Xl0
 rw [strOfNums_size, Xni l (Xfu hl), rqA, Xaz (by simp only [List.length_singleton]; omega)]
 have key : ∀ (z : Nat) (s : List Int), s.length ≤ 500000 → z < 8 → (s.length + z) % 8 = 0 → loop Xg8 s = some (s ++ List.replicate z 48) := by
  intro z
  induction z with
  | zero =>
   intro s hs _ h8
   refine Xf7 ?_
   unfold Xg8
   rw [Xaz (by decide), Xb3 (by omega), Xba (by simp only [bne_eq_false_iff_eq]; omega)]; simp
  | succ z ih =>
   intro s hs hz h8
   refine lgo (y := s ++ [48]) ?_ ?_
   ·
    unfold Xg8
    rw [Xaz (by decide), Xb3 (by omega), Xbk (by simp only [bne_iff_ne, ne_eq]; omega), Xaz (by simp only [List.length_singleton]; omega)]
   ·
    rw [ih (s ++ [48]) (by simp; omega) (by omega) (by simp; omega), List.append_assoc, List.replicate_succ]; rfl
 have hz : (l ++ [49] ++ List.replicate (8 * (l.length / 8 + 1) - l.length - 1) 48 : List Int).length = 8 * (l.length / 8 + 1) := by simp; omega
 have hvb : Xua (l ++ [49] ++ List.replicate (8 * (l.length / 8 + 1) - l.length - 1) 48) := Xa5 (Xa5 hl (fun x hx => .inr (List.mem_singleton.1 hx))) (Yxe _)
 rw [key (8 * (l.length / 8 + 1) - l.length - 1) (l ++ [49]) (by simp; omega) (by omega) (by simp; omega), Xad]
 have := Yy7 _ hvb (by omega) (l.length / 8 + 1) 0 [] (by rw [hz]; omega) (by simp)
 rw [List.nil_append, List.drop_zero] at this
 rw [show (0 : Int) = ((0 : Nat) : Int) from rfl, this, Xad]
 unfold Zbz
 rw [List.append_assoc, List.singleton_append]
theorem Yx8 (l : List Int) : (Zbz l).length = l.length / 8 + 1 := Xv7 _ _
def Ya4 (k : Int) : Bool := k == 1 || (k == 5 || (k == 7 || k == 8))
theorem Yon (k : Int) : Xph k = some (Ya4 k) := by
 unfold Xph Ya4
 simp only [Ybj, Xad]
theorem Ym1 (k : Int) : Xn2 k = some (Ya4 k) := by
 unfold Xn2 Ya4
 simp only [Ybj, Xad]
theorem Yu1 {k : Int} (h : Ya4 k = true) : 1 ≤ k ∧ k ≤ 8 := by
 unfold Ya4 at h
 simp only [Bool.or_eq_true, beq_iff_eq] at h
 omega
theorem Xq4 (k : Int) (l : List Int) (hk : Ya4 k = true) (hl : Xua l) (hn : l.length ≤ 400000) : Xkf k (strOfNums l) = some (strOfNums (k :: Zbz l), true) := by
 have := Yu1 hk
 have hp := Yx8 l
 unfold Xkf
 rw [Yf8 l hl hn, Xad, Yon, hk]
 simp only [Xa0, Xad, Bool.not_true, Xay]
 rw [w8 (by omega) (by omega), Xaz (by simp only [strOfNums_size, List.length_singleton]; omega), Xa2]; rfl
theorem Xrh (k : Int) (l : List Int) (hk : Ya4 k = true) (hl : Xua l) (hn : l.length ≤ 400000) : Xki k (strOfNums l) = some (strOfNums (k :: Zbz l), true) := by
 have := Yu1 hk
 have hp := Yx8 l
 unfold Xki
 rw [Ym1, Xad, hk, Xa0, Ytp l hl hn, Xad, Xad, Bool.not_true, Xay, Yht l hl hn, Xad, w8 (by omega) (by omega), Xaz (by simp only [strOfNums_size, List.length_singleton]; omega), Xa2]; rfl
def Ytd (b : Bool) : List Int := if b = true then [49] else [48]
theorem Ylt (b : Bool) : Xua (Ytd b) := by unfold Ytd; split <;> (intro x hx; rw [List.mem_singleton.1 hx]; simp)
theorem Xps (b : Bool) : (Ytd b).length = 1 := by unfold Ytd; split <;> rfl
theorem Xuy (b : Bool) : Xrz b = some (strOfNums (Ytd b)) := by cases b <;> rfl
theorem Xp6 (b : Bool) : Xk3 b = some (strOfNums (Ytd b)) := by cases b <;> rfl
def Yz2 (p : Par) : List Int := Ynt 6 p.Qp ++ Ytd p.Large ++ Ytd p.Exact ++ Ytd p.Confined
theorem Yx9 (p : Par) : Xua (Yz2 p) := Xa5 (Xa5 (Xa5 (Yiq _ _) (Ylt _)) (Ylt _)) (Ylt _)
theorem Yya (p : Par) : (Yz2 p).length = 9 := by unfold Yz2; simp only [List.length_append, Xeo, Xps]
theorem Yba {p : Par} (h : Xuc p = true) : 0 ≤ p.Qp ∧ p.Qp ≤ 40 := by
 unfold Xuc at h; rw [Bool.and_eq_true, decide_eq_true_eq] at h; exact h.1
theorem Yn3 (p : Par) (h : Xuc p = true) : Xpb p = some (strOfNums (Yz2 p), true) := by
 have := Yba h
 unfold Xpb
 rw [Xsz, Xad, h, Xba (by rfl), show (6 : Int) = ((6 : Nat) : Int) from rfl, Xou _ 6 (by omega) (by omega) (by omega), Xad, Xuy, Xad, Xaz (by simp only [strOfNums_size, Xeo, Xps]; omega), Xuy, Xad, Xa2, Xaz (by simp only [strOfNums_size, List.length_append, Xeo, Xps]; omega), Xuy, Xad, Xa2, Xaz (by simp only [strOfNums_size, List.length_append, Xeo, Xps]; omega), Xa2]
 rfl
theorem Yqe (p : Par) (h : Xuc p = true) : Xp7 p = some (strOfNums (Yz2 p)) := by
 have := Yba h
 unfold Xp7
 rw [show (6 : Int) = ((6 : Nat) : Int) from rfl, Xrj _ 6 (by omega) (by omega) (by omega), Xad, Xp6, Xad, Xaz (by simp only [strOfNums_size, Xeo, Xps]; omega), Xp6, Xad, Xa2, Xaz (by simp only [strOfNums_size, List.length_append, Xeo, Xps]; omega), Xp6, Xad, Xa2, Xaz (by simp only [strOfNums_size, List.length_append, Xeo, Xps]; omega), Xa2]
 rfl
def Zb0 : List Int → List Int
 | [] => []
 | x :: r => ueL x.toNat ++ Zb0 r
theorem Yyw : ∀ l : List Int, Xua (Zb0 l)
 | [] => Xsr
 | x :: r => Xa5 (Xg0 _) (Yyw r)
theorem Yyx : ∀ {l : List Int}, l.all Xe8 = true → (Zb0 l).length ≤ 39 * l.length
 | [], _ => by simp [Zb0]
 | x :: r, h => by
  rw [List.all_cons, Bool.and_eq_true] at h
  have h1 := Yyx h.2
  have h2 : 1 ≤ x ∧ x ≤ 8 := by simpa [Xe8] using h.1
  have := Xcv x.toNat (by omega)
  rw [Zb0, List.length_append, List.length_cons]
  omega
def Yu6 (l : List Int) : List Int := ueL l.length ++ Zb0 l
def Yzn (s : Seq) : List Int := ueL s.Level.toNat ++ Ynt 4 s.Bits ++ Yu6 s.Cols ++ Yu6 s.Rows
theorem Yu7 (l : List Int) : Xua (Yu6 l) := Xa5 (Xg0 _) (Yyw _)
theorem Yyk (s : Seq) : Xua (Yzn s) := Xa5 (Xa5 (Xa5 (Xg0 _) (Yiq _ _)) (Yu7 _)) (Yu7 _)
theorem Xr9 {l : List Int} (h : Xeh l = true) : (Yu6 l).length ≤ 195 := by
 have h1 := Xc1 h
 unfold Xeh at h
 rw [Bool.and_eq_true] at h
 have := Yyx h.2
 have := Xcv l.length (by omega)
 unfold Yu6; rw [List.length_append]; omega
theorem Xzd {s : Seq} (h : Xlt s = true) : 1 ≤ s.Level ∧ s.Level ≤ 3 := by
 unfold Xlt at h
 rw [Bool.and_eq_true, decide_eq_true_eq] at h
 have := h.1
 unfold Xky at this
 repeat' split at this
 all_goals omega
theorem Yyl {s : Seq} (h : Xlt s = true) : (Yzn s).length ≤ 433 := by
 obtain ⟨h1, h2, _⟩ := Xbl h
 have h3 := Xzd h
 have := Xr9 h1
 have := Xr9 h2
 have := Xcv s.Level.toNat (by omega)
 unfold Yzn; simp only [List.length_append, Xeo]; omega
theorem Yfp (l : List Int) (ha : l.all Xe8 = true) (h4 : l.length ≤ 4) (f : (ByteArray × Int) → Option (Lp (ByteArray × Int) ByteArray))
  (h : ∀ (i : Nat) (s : List Int) (x : Int), i < l.length → s.length ≤ 1000 → l.getD i 0 = x → f (strOfNums s, (i : Int)) = some (.go (strOfNums (s ++ ueL x.toNat), ((i + 1 : Nat) : Int)))) (h0 : ∀ s, f (s, (l.length : Int)) = some (.done s)) (s : List Int) (hs : s.length ≤ 500) : loop f (strOfNums s, 0) = some (strOfNums (s ++ Zb0 l)) := by
 have key : ∀ (r a : List Int) (s : List Int), l = a ++ r → s.length + 39 * r.length ≤ 800 → loop f (strOfNums s, (a.length : Int)) = some (strOfNums (s ++ Zb0 r)) := by
  intro r
  induction r with
  | nil => intro a s ha _; rw [List.append_nil] at ha; rw [← ha, Xe7 (h0 _), Zb0, List.append_nil]
  | cons x r ih =>
   intro a s hl hsl
   have hlen : a.length < l.length := by rw [hl]; simp
   have hx : l.getD a.length 0 = x := by rw [hl]; exact Xgo a x _ r
   have hxs : 1 ≤ x ∧ x ≤ 8 := by simpa [Xe8] using List.all_eq_true.1 ha x (by rw [hl]; simp)
   have := Xcv x.toNat (by omega)
   rw [List.length_cons] at hsl
   have hn := ih (a ++ [x]) (s ++ ueL x.toNat) (by rw [hl]; simp) (by rw [List.length_append]; omega)
   rw [List.length_append, List.length_singleton] at hn
   rw [Xdp (h a.length s x hlen (by omega) hx), hn, Zb0, List.append_assoc]
 exact key l [] s rfl (by omega)
theorem Xvj (l : List Int) (h : Xeh l = true) : Xk4 l = some (strOfNums (Yu6 l)) := by
 have h1 := Xc1 h
 have ha : l.all Xe8 = true := by unfold Xeh at h; rw [Bool.and_eq_true] at h; exact h.2
 have := Xcv l.length (by omega)
 unfold Xk4
 rw [Xck _ (by omega), Xad, Yfp l ha h1.2 (Xif l) (by
  intro i s x hi hs hx
  have hxs : 1 ≤ x ∧ x ≤ 8 := by rw [Xd8 l i hi] at hx; simpa [Xe8, hx] using List.all_eq_true.1 ha _ (List.getElem_mem hi)
  have := Xcv x.toNat (by omega)
  unfold Xif
  simp only [Int.toNat_natCast, hx]
  rw [syA, rqA, show x = ((x.toNat : Nat) : Int) by omega, Xck _ (by omega), Xad, Xaz (by simp only [strOfNums_size]; omega), wkA, Xa2]
  rfl) (by intro s; unfold Xif; simp only; rw [snA]) _ (by omega), Xad]
 rfl
theorem Yqg (s : Seq) (h : Xlt s = true) : Xp8 s = some (strOfNums (Yzn s)) := by
 obtain ⟨h1, h2, h3⟩ := Xbl h
 have h4 := Xzd h
 have := Xr9 h1
 have := Xr9 h2
 have := Xcv s.Level.toNat (by omega)
 unfold Xp8
 rw [show s.Level = ((s.Level.toNat : Nat) : Int) by omega, Xck _ (by omega), Xad, show (4 : Int) = ((4 : Nat) : Int) from rfl, Xrj _ 4 (by omega) (by omega) (by omega), Xad, Xaz (by simp only [strOfNums_size, Xeo]; omega), Xvj _ h1, Xad, Xa2, Xaz (by simp only [strOfNums_size, List.length_append, Xeo]; omega), Xvj _ h2, Xad, Xa2, Xaz (by simp only [strOfNums_size, List.length_append, Xeo]; omega), Xa2]
 rfl
theorem Yod (s : Seq) (h : Xlt s = true) (hc : s.Cols.length ≤ maxLen) (hr : s.Rows.length ≤ maxLen) : Xpd s = some (strOfNums (Yzn s), true) := by
 obtain ⟨h1, h2, h3⟩ := Xbl h
 have h4 := Xzd h
 have g1 := Xr9 h1
 have g2 := Xr9 h2
 have g3 := Xcv s.Level.toNat (by omega)
 unfold Xpd
 rw [Xos s hc hr, Xad, h, Xba (by rfl), show s.Level = ((s.Level.toNat : Nat) : Int) by omega, Xf3 _ (by omega), Xad, show (4 : Int) = ((4 : Nat) : Int) from rfl, Xou _ 4 (by omega) (by omega) (by omega), Xad, Xaz (by simp only [strOfNums_size, Xeo]; omega), Xa2]
 have step : ∀ (n : Nat) (l t : List Int), n = 0 ∨ n = 1 → ([s.Cols, s.Rows]).getD n Xgn = l → Xeh l = true → t.length ≤ 300 → Xec s (strOfNums t, (n : Int)) = some (.go (strOfNums (t ++ Yu6 l), ((n + 1 : Nat) : Int))) := by
  intro n l t hn hl hok ht
  have l4 := Xc1 hok
  have ha : l.all Xe8 = true := by unfold Xeh at hok; rw [Bool.and_eq_true] at hok; exact hok.2
  have := Xcv l.length (by omega)
  unfold Xec
  simp only [Int.toNat_natCast, hl, List.length_cons, List.length_nil]
  rw [syA, rqA, rqA, Xf3 _ (by omega), Xad, Xaz (by simp only [strOfNums_size]; omega), Xa2, Yfp l ha l4.2 (Xhs s (strOfNums t, (n : Int))) (by
   intro i u x hi hs hx
   have hxs : 1 ≤ x ∧ x ≤ 8 := by rw [Xd8 l i hi] at hx; simpa [Xe8, hx] using List.all_eq_true.1 ha _ (List.getElem_mem hi)
   have := Xcv x.toNat (by omega)
   unfold Xhs
   simp only [Int.toNat_natCast, hl, hx]
   rw [syA, rqA, show x = ((x.toNat : Nat) : Int) by omega, Xf3 _ (by omega), Xad, Xaz (by simp only [strOfNums_size]; omega), wkA, Xa2]
   rfl) (by intro u; unfold Xhs; simp only [Int.toNat_natCast, hl]; rw [snA]) _ (by rw [List.length_append]; omega), Xad, wkA, List.append_assoc]
  rfl
 have s0 := step 0 s.Cols (ueL s.Level.toNat ++ Ynt 4 s.Bits) (.inl rfl) rfl h1 (by rw [List.length_append, Xeo]; omega)
 have s1 := step 1 s.Rows (ueL s.Level.toNat ++ Ynt 4 s.Bits ++ Yu6 s.Cols) (.inr rfl) rfl h2 (by simp only [List.length_append, Xeo]; omega)
 have s2 : ∀ t, Xec s (t, ((2 : Nat) : Int)) = some (.done t) := by intro t; unfold Xec; simp only; rw [Xav (by simp)]
 have e : loop (Xec s) (strOfNums (ueL s.Level.toNat ++ Ynt 4 s.Bits), ((0 : Nat) : Int)) = some (strOfNums (Yzn s)) := by
  rw [Xdp s0, Xdp s1, Xe7 (s2 _)]; rfl
 exact Xip e
theorem Xyx (l : List ByteArray) (hl : l.length ≤ 9223372036854775806) : Xfj l l = some true := by
 unfold Xfj
 rw [Xba (by simp), Xsd l.length (f := Xf4 l l) (by
  intro i hi
  unfold Xf4
  rw [syA, rqA, rqA, Xba (by simp), wkA]
  rfl) (by unfold Xf4; rw [snA])]
 rfl
noncomputable def Ygw (k : Int) : List ByteArray → List ByteArray
 | [] => []
 | _ :: r => mT k :: Ygw (k + 1) r
theorem Yvf : ∀ (l : List ByteArray) (k : Int), (Ygw k l).length = l.length
 | [], _ => rfl
 | _ :: r, k => by rw [Ygw, List.length_cons, List.length_cons, Yvf r]
theorem Xy5 (l : List ByteArray) (k : Int) (h0 : 0 < k) (h1 : k ≤ 1000000000) (hl : l.length ≤ 100000000) : Xg5 l k = some (k + l.length, Ygw k l) := by
 unfold Xg5
 have key : ∀ (r a : List ByteArray) (j : Int), 0 < j → j + r.length ≤ 2000000000 → a.length + r.length ≤ 100000000 → loop Xeg (j, (a.length : Int), a ++ r) = some (j + r.length, a ++ Ygw j r) := by
  intro r
  induction r with
  | nil =>
   intro a j hj1 hj2 hl
   refine Xf7 ?_
   unfold Xeg
   simp only [List.append_nil]
   rw [snA]
   simp [Ygw]
  | cons p r ih =>
   intro a j hj1 hj2 hl
   simp only [List.length_cons] at hj2 hl ⊢
   have hcl : ∀ x : ByteArray, (a ++ x :: r).length = a.length + (r.length + 1) := fun x => by simp
   refine lgo (y := (j + 1, ((a ++ [mT j]).length : Int), (a ++ [mT j]) ++ r)) ?_ ?_
   ·
    unfold Xeg
    simp only [Int.toNat_natCast, Yd6, hcl]
    rw [syA, Xtv _ hj1 (by omega), Xad, rqA, rqA, wkA (e := j + 1), wkA]
    simp
   ·
    rw [ih _ (j + 1) (by omega) (by omega) (by simp; omega)]
    simp only [Ygw, List.append_assoc, List.singleton_append]
    congr 2
    omega
 have := key l [] k h0 (by omega) (by simp; omega)
 simp only [List.length_nil, List.nil_append] at this
 exact Xip this
theorem Xy1 (l : List ByteArray) (k : Int) (h0 : 0 < k) (h1 : k ≤ 1000000000) (hl : l.length ≤ 100000000) : Xev (Ygw k l) k = some (k + l.length) := by
 unfold Xev
 have key : ∀ (r a : List ByteArray) (j : Int), 0 < j → j + r.length ≤ 2000000000 → a.length + r.length ≤ 100000000 → loop (Xef (a ++ Ygw j r)) (j, (a.length : Int)) = some (.out (j + r.length)) := by
  intro r
  induction r with
  | nil =>
   intro a j hj1 hj2 hl
   refine Xf7 ?_
   unfold Xef
   simp only [Ygw, List.append_nil]
   rw [snA]
   simp
  | cons p r ih =>
   intro a j hj1 hj2 hl
   simp only [List.length_cons] at hj2 hl ⊢
   have hcl : ∀ (x : ByteArray) (r : List ByteArray), (a ++ x :: r).length = a.length + (r.length + 1) := fun x r => by simp
   refine lgo (y := (j + 1, ((a ++ [mT j]).length : Int))) ?_ ?_
   ·
    unfold Xef
    simp only [Ygw, Int.toNat_natCast, Xgo, hcl, Yvf]
    rw [syA, rqA, Xtv _ hj1 (by omega), Xad, Xba (by simp), wkA (e := j + 1), wkA]
    simp
   ·
    have := ih (a ++ [mT j]) (j + 1) (by omega) (by omega) (by simp; omega)
    simp only [Ygw]
    rw [List.append_assoc, List.singleton_append] at this
    rw [this]
    congr 2
    omega
 have := key l [] k h0 (by omega) (by simp; omega)
 simp only [List.length_nil, List.nil_append] at this
 exact Xip this
theorem Xxj (l : List Int) (hl : l.length ≤ 1048576) : Xmz l = some l := by
 unfold Xmz
 rw [rqA, Int.toNat_natCast]
 have := Zai l (fun p : Int => p) 0 (0 : Int) (f := Xjn l) (by
  intro i o hi ho
  unfold Xjn
  simp only
  rw [syA, rqA, rqA, rqA, wkA]
  rfl) (by
  intro o; unfold Xjn; simp only; rw [snA])
 rw [this, Xad, List.map_id']
theorem Ysw (s : Seq) (h1 : s.Cols.length ≤ 1048576) (h2 : s.Rows.length ≤ 1048576) : Xr8 s = some s := by
 unfold Xr8
 rw [Xxj _ h1, Xad, Xxj _ h2, Xad]
theorem Xxh (l : List Int) (m : Int) (hl : l.length ≤ maxLen) (h0 : 0 ≤ m) (h1 : m ≤ 1048576) : Xmy l m = some (if m < l.length then -1 else m - l.length) := by
 have hm : maxLen = 9223372036854775807 := rfl
 unfold Xmy
 rw [wkA, Yd5]
 by_cases h : m < l.length
 ·
  rw [if_pos h, if_pos (by omega)]
 ·
  rw [if_neg h, if_neg (by omega)]
theorem Yst (s : Seq) (m : Int) (h1 : s.Cols.length ≤ maxLen) (h2 : s.Rows.length ≤ maxLen) (h0 : 0 ≤ m) (hm : m ≤ 1048576) : ∃ t, Xr7 s m = some t ∧ t ≤ m ∧ -1 ≤ t ∧ (0 ≤ t → s.Cols.length ≤ 1048576 ∧ s.Rows.length ≤ 1048576) := by
 unfold Xr7
 rw [Xxh _ m h1 h0 hm, Xad]
 by_cases e1 : m < s.Cols.length
 ·
  rw [if_pos e1, syA]; exact ⟨_, rfl, by omega, by omega, by omega⟩
 ·
  rw [if_neg e1, snA, Xxh _ _ h2 (by omega) (by omega), Xad]
  by_cases e2 : m - s.Cols.length < s.Rows.length
  ·
   rw [if_pos e2, syA]; exact ⟨_, rfl, by omega, by omega, by omega⟩
  ·
   rw [if_neg e2, snA]; exact ⟨_, rfl, by omega, by omega, fun _ => by omega⟩
theorem Ya7 (p : Pic) (m : Int) (hl : p.Dots.size ≤ maxLen) (h0 : 0 ≤ m) (h1 : m ≤ 1048576) : Xo1 p m = some (if m < p.Dots.size then -1 else m - p.Dots.size) := by
 have hm : maxLen = 9223372036854775807 := rfl
 unfold Xo1
 rw [wkA, Yd5]
 by_cases h : m < p.Dots.size
 ·
  rw [if_pos h, if_pos (by omega)]
 ·
  rw [if_neg h, if_neg (by omega)]
theorem Ygu (s : Source) (h1 : s.Seq.Cols.length ≤ 1048576) (h2 : s.Seq.Rows.length ≤ 1048576) : Xe6 s = some s := by
 unfold Xe6
 rw [Ysw _ h1 h2, Xad]; rfl
def Xo2 (s : Source) : List ByteArray := if Xc5 s = true then [strOfNums (7 :: Zbz (Yzn s.Seq)), strOfNums (8 :: Zbz (Yz2 s.Par))] else []
theorem Xxn {s : Source} (h : Xc5 s = true) : Xlt s.Seq = true ∧ Xuc s.Par = true := by
 unfold Xc5 at h
 simp only [Bool.and_eq_true, decide_eq_true_eq] at h
 exact ⟨Xv3 h.1.1.1.1.1, h.1.1.1.1.2⟩
theorem Yb2 (s : Source) (hb : (Lit.int .i64 s.Seq.Bits).wf = true) : Xib s = some (Xo2 s) := by
 unfold Xib Xo2
 rw [Xew s hb, Xad, Xs9]
 cases h : Xc5 s with
 | false => rfl
 | true =>
  obtain ⟨h1, h2⟩ := Xxn h
  have := Yyl h1
  rw [Xa0, Yqg _ h1, Xad, Xrh 7 _ rfl (Yyk _) (by omega), Xad, Yqe _ h2, Xad, Xrh 8 _ rfl (Yx9 _) (by rw [Yya]; omega), Xad]
  rfl
theorem Yaj (s : Source) (hc : s.Seq.Cols.length ≤ maxLen) (hr : s.Seq.Rows.length ≤ maxLen) : Xhu s = some (Xo2 s) := by
 unfold Xhu Xo2
 rw [Xes s hc hr, Xad, Xs9]
 cases h : Xc5 s with
 | false => rfl
 | true =>
  obtain ⟨h1, h2⟩ := Xxn h
  have := Yyl h1
  rw [Xa0, Yod _ h1 hc hr, Xad, Yn3 _ h2, Xad, Xq4 7 _ rfl (Yyk _) (by omega), Xad, Xq4 8 _ rfl (Yx9 _) (by rw [Yya]; omega), Xad]
  rfl
def Yrv (n : Int) : Nat := if n > 0 then (2 * n - 1).toNat else (-2 * n).toNat
theorem Xwz (n : Int) (h : -500000 ≤ n ∧ n ≤ 500000) : Xmh n = some ((Yrv n : Int), true) := by
 unfold Xmh Yrv
 rw [Xar, Xad, Xs9, Xbo h, Yd5, wkA (e := 2 * n), wkA, wkA]
 split
 ·
  rw [Int.toNat_of_nonneg (by omega)]
 ·
  rw [Int.toNat_of_nonneg (by omega)]
theorem Ypi (n : Int) (h : -500000 ≤ n ∧ n ≤ 500000) : Xpt n = some ((Yrv n : Int), true) := by
 unfold Xpt Yrv
 rw [Xaj, Xad, Xs9, Xbo h, Yd5, wkA (e := 2 * n), wkA, wkA]
 split
 ·
  rw [Int.toNat_of_nonneg (by omega)]
 ·
  rw [Int.toNat_of_nonneg (by omega)]
theorem Xz0 (n : Int) (h : -500000 ≤ n ∧ n ≤ 500000) : Yrv n ≤ 1000000 := by unfold Yrv; split <;> omega
def seL (n : Int) : List Int := ueL (Yrv n)
theorem Xod (n : Int) (h : -500000 ≤ n ∧ n ≤ 500000) : (seL n).length ≤ 39 := (Xcv _ (Xz0 n h)).1
theorem Xl2 (n : Int) (h : -500000 ≤ n ∧ n ≤ 500000) : Xi2 n = some (strOfNums (seL n)) := by
 unfold Xi2
 rw [Ypi n h, Xad, Xck _ (Xz0 n h), Xad]; rfl
theorem Xoq (n : Int) (h : -500000 ≤ n ∧ n ≤ 500000) : Xkp n = some (strOfNums (seL n), true) := by
 have := Xz0 n h
 unfold Xkp
 rw [Xwz n h, Xad, Xs9, Xa0]
 unfold Xoz
 rw [Xar, Xad, Xs9, syA, Xf3 _ this, Xad, Xad]; rfl
def Yvd (x : Int) : Bool := decide (-5000 ≤ x ∧ x ≤ 5000)
theorem Ys1 {x : Int} : Yvd x = true ↔ -5000 ≤ x ∧ x ≤ 5000 := by simp [Yvd]
def nz : List Int → Nat
 | [] => 0
 | x :: r => if x = 0 then nz r else nz r + 1
theorem Zcw : ∀ l : List Int, nz l ≤ l.length
 | [] => by simp [nz]
 | x :: r => by rw [nz, List.length_cons]; have := Zcw r; split <;> omega
def Xwt : Nat → List Int → List Int
 | _, [] => []
 | g, x :: r => if x = 0 then Xwt (g + 1) r else ueL g ++ seL x ++ Xwt 0 r
def Xzc (l : List Int) : List Int := ueL (nz l) ++ Xwt 0 l
theorem Ylq : ∀ (l : List Int) (g : Nat), Xua (Xwt g l)
 | [], _ => Xsr
 | x :: r, g => by
  rw [Xwt]
  split
  ·
   exact Ylq r _
  ·
   exact Xa5 (Xa5 (Xg0 _) (Xg0 _)) (Ylq r _)
theorem Ybg : ∀ (l : List Int) (g : Nat), l.all Yvd = true → g + l.length ≤ 1000 → (Xwt g l).length ≤ 78 * l.length
 | [], _, _, _ => by simp [Xwt]
 | x :: r, g, h, hg => by
  rw [List.all_cons, Bool.and_eq_true, Ys1] at h
  rw [List.length_cons] at hg ⊢
  rw [Xwt]
  split
  ·
   have := Ybg r (g + 1) h.2 (by omega); omega
  ·
   have := Ybg r 0 h.2 (by omega)
   have a := Xcv g (by omega)
   have b := Xod x (by omega)
   simp only [List.length_append]; omega
theorem Xu4 (l : List Int) : Xua (Xzc l) := Xa5 (Xg0 _) (Ylq _ _)
theorem Xf8 (l : List Int) (h : l.all Yvd = true) (hl : l.length ≤ 64) : (Xzc l).length ≤ 39 + 78 * l.length := by
 have := Ybg l 0 h (by omega)
 have := Zcw l
 have := Xcv (nz l) (by omega)
 unfold Xzc; rw [List.length_append]; omega
theorem Xii (l : List Int) (h : l.all Yvd = true) (hl : l.length ≤ 64) : Xfd l = some (strOfNums (Xzc l)) := by
 unfold Xfd
 have key : ∀ (r a : List Int) (n g : Nat) (s : List Int), l = a ++ r → n ≤ a.length → g ≤ a.length → s.length ≤ 78 * a.length → loop (Xgf l) ((n : Int), (g : Int), strOfNums s, (a.length : Int)) = some (((n + nz r : Nat) : Int), strOfNums (s ++ Xwt g r)) := by
  intro r
  induction r with
  | nil =>
   intro a n g s ha _ _ _
   rw [List.append_nil] at ha
   refine Xf7 ?_
   unfold Xgf
   simp only
   rw [Xav (by rw [ha]; omega), nz, Xwt, List.append_nil]; rfl
  | cons x r ih =>
   intro a n g s ha hn hg hs
   have hlen : a.length < l.length := by rw [ha]; simp
   have hx : l.getD a.length 0 = x := by rw [ha]; exact Xgo a x _ r
   have hxi : -5000 ≤ x ∧ x ≤ 5000 := Ys1.1 (List.all_eq_true.1 h x (by rw [ha]; simp))
   by_cases e : x = 0
   ·
    have hnext := ih (a ++ [x]) n (g + 1) s (by rw [ha]; simp) (by simp; omega) (by simp; omega) (by simp; omega)
    rw [List.length_append, List.length_singleton] at hnext
    rw [nz, Xwt, if_pos e, if_pos e, ← hnext]
    refine Xdp ?_
    unfold Xgf
    simp only [Int.toNat_natCast, hx]
    rw [syA, rqA, Xbk (by simpa using e), Xad, wkA, wkA]
    rfl
   ·
    have u1 := Xcv g (by omega)
    have u2 := Xod x (by omega)
    have hnext := ih (a ++ [x]) (n + 1) 0 (s ++ ueL g ++ seL x) (by rw [ha]; simp) (by simp; omega) (by omega) (by simp only [List.length_append, List.length_singleton]; omega)
    rw [List.length_append, List.length_singleton] at hnext
    rw [nz, Xwt, if_neg e, if_neg e, show n + (nz r + 1) = n + 1 + nz r by omega, ← List.append_assoc, ← List.append_assoc, ← hnext]
    refine Xdp ?_
    unfold Xgf
    simp only [Int.toNat_natCast, hx]
    rw [syA, rqA, Xba (by simpa using e), Xck g (by omega), Xad, Xaz (by simp only [strOfNums_size]; omega), rqA, Xl2 x (by omega), Xad, Xa2, Xaz (by simp only [strOfNums_size, List.length_append]; omega), Xa2, Xad, wkA, wkA]
    rfl
 have := key l [] 0 0 [] rfl (by omega) (by omega) (by simp)
 refine (Xip this).trans ?_
 have hz := Zcw l
 have u := Xcv (nz l) (by omega)
 have b := Ybg l 0 h (by omega)
 simp only [Nat.zero_add, List.nil_append]
 rw [Xck _ (by omega), Xad, Xaz (by simp only [strOfNums_size]; omega), Xa2]
 rfl
theorem Yfe (l : List Int) (h : l.all Yvd = true) (hl : l.length ≤ 64) : Xrw l = some (Xzc l) := by
 have hm : maxLen = 9223372036854775807 := rfl
 unfold Xrw
 have k1 : ∀ (r a : List Int) (n : Nat), l = a ++ r → n ≤ a.length → loop (Xku l) ((n : Int), (a.length : Int)) = some ((n + nz r : Nat) : Int) := by
  intro r
  induction r with
  | nil =>
   intro a n ha _
   rw [List.append_nil] at ha
   refine Xf7 ?_
   unfold Xku
   simp only
   rw [Xav (by rw [ha]; omega)]; rfl
  | cons x r ih =>
   intro a n ha hn
   have hlen : a.length < l.length := by rw [ha]; simp
   have hx : l.getD a.length 0 = x := by rw [ha]; exact Xgo a x _ r
   by_cases e : x = 0
   ·
    have hnext := ih (a ++ [x]) n (by rw [ha]; simp) (by simp; omega)
    rw [List.length_append, List.length_singleton] at hnext
    rw [nz, if_pos e, ← hnext]
    refine Xdp ?_
    unfold Xku
    simp only [Int.toNat_natCast, hx]
    rw [syA, rqA, Xba (by simpa using e), Xad, wkA]
    rfl
   ·
    have hnext := ih (a ++ [x]) (n + 1) (by rw [ha]; simp) (by simp; omega)
    rw [List.length_append, List.length_singleton] at hnext
    rw [nz, if_neg e, show n + (nz r + 1) = n + 1 + nz r by omega, ← hnext]
    refine Xdp ?_
    unfold Xku
    simp only [Int.toNat_natCast, hx]
    rw [syA, rqA, Xbk (by simpa using e), Xad, wkA, wkA]
    rfl
 refine (Xip (k1 l [] 0 rfl (by omega))).trans ?_
 have hz := Zcw l
 have u := Xcv (nz l) (by omega)
 simp only [Nat.zero_add]
 rw [Xf3 _ (by omega), Xad, Xni _ (Xfu (Xg0 _)), Xaz (by simp only [List.length_nil]; omega), List.nil_append]
 have key : ∀ (r a : List Int) (g : Nat) (s : List Int), l = a ++ r → g ≤ a.length → s.length ≤ 39 + 78 * a.length → loop (Xkv l) ((g : Int), (a.length : Int), s) = some (s ++ Xwt g r) := by
  intro r
  induction r with
  | nil =>
   intro a g s ha _ _
   rw [List.append_nil] at ha
   refine Xf7 ?_
   unfold Xkv
   simp only
   rw [Xav (by rw [ha]; omega), Xwt, List.append_nil]
  | cons x r ih =>
   intro a g s ha hg hs
   have hlen : a.length < l.length := by rw [ha]; simp
   have hx : l.getD a.length 0 = x := by rw [ha]; exact Xgo a x _ r
   have hxi : -5000 ≤ x ∧ x ≤ 5000 := Ys1.1 (List.all_eq_true.1 h x (by rw [ha]; simp))
   by_cases e : x = 0
   ·
    have hnext := ih (a ++ [x]) (g + 1) s (by rw [ha]; simp) (by simp; omega) (by simp; omega)
    rw [List.length_append, List.length_singleton] at hnext
    rw [Xwt, if_pos e, ← hnext]
    refine Xdp ?_
    unfold Xkv
    simp only [Int.toNat_natCast, hx]
    rw [syA, rqA, Xbk (by simpa using e), Xad, wkA, wkA]
    rfl
   ·
    have u1 := Xcv g (by omega)
    have u2 := Xod x (by omega)
    have hnext := ih (a ++ [x]) 0 (s ++ ueL g ++ seL x) (by rw [ha]; simp) (by omega) (by simp only [List.length_append, List.length_singleton]; omega)
    rw [List.length_append, List.length_singleton] at hnext
    rw [Xwt, if_neg e, ← List.append_assoc, ← List.append_assoc, ← hnext]
    refine Xdp ?_
    unfold Xkv
    simp only [Int.toNat_natCast, hx]
    rw [syA, rqA, Xba (by simpa using e), Xwz x (by omega), Xad, Xf3 g (by omega), Xad, Xni _ (Xfu (Xg0 _)), rqA, Xf3 _ (Xz0 x (by omega)), Xad, Xni _ (Xfu (Xg0 _)), Xaz (by rw [List.length_append]; have : (seL x).length = (ueL (Yrv x)).length := rfl; omega), Xad, wkA]
    rfl
 exact Xip (key l [] 0 (ueL (nz l)) rfl (by omega) (by simp; omega))
def Yiu (l : List Int) : Bool := decide (l.length = 64) && l.all Yvd
theorem Yim (p : Int → Bool) (l : List Int) (f : Int → Option (Lp Int (Ou Unit Bool))) (h : ∀ i : Nat, i < l.length → f (i : Int) = sel (!(p (l.getD i 0))) (some (.done (.ret false))) (some (.go ((i + 1 : Nat) : Int)))) (h0 : f (l.length : Int) = some (.done (.out ()))) :
  loop f 0 = some (if l.all p = true then .out () else .ret false) := by
 have key : ∀ (r a : List Int), l = a ++ r → loop f (a.length : Int) = some (if r.all p = true then .out () else .ret false) := by
  intro r
  induction r with
  | nil => intro a ha; rw [List.append_nil] at ha; rw [← ha, Xe7 h0]; rfl
  | cons x r ih =>
   intro a ha
   have hlen : a.length < l.length := by rw [ha]; simp
   have hx : l.getD a.length 0 = x := by rw [ha]; exact Xgo a x _ r
   have hs := h a.length hlen
   rw [hx] at hs
   cases e : p x with
   | true =>
    rw [e] at hs
    have := ih (a ++ [x]) (by rw [ha]; simp)
    rw [List.length_append, List.length_singleton] at this
    rw [Xdp hs, this, List.all_cons, e, Bool.true_and]
   | false => rw [e] at hs; rw [Xe7 hs, List.all_cons, e, Bool.false_and]; rfl
 exact key l [] rfl
theorem Yqh (l : List Int) : Xbt l 64 5000 = some (Yiu l) := by
 unfold Xbt Yiu
 by_cases h : l.length = 64
 ·
  rw [Xba (by simp only [bne_eq_false_iff_eq]; omega), Yim Yvd l (Xd0 l 64 5000) (by
   intro i hi
   unfold Xd0
   rw [syA, rqA, wkA (e := 0 - 5000), Xaj, Xad, wkA, Int.toNat_natCast]
   rfl) (by unfold Xd0; rw [snA]), Xad, decide_eq_true h, Bool.true_and]
  cases l.all Yvd <;> rfl
 ·
  rw [Xbk (by simp only [bne_iff_ne, ne_eq]; omega), decide_eq_false h, Bool.false_and]
theorem Xlj (l : List Int) (n lo hi : Int) (hl : l.length ≤ 9223372036854775806) : Xbf l n lo hi = some (l.all (fun x => decide (lo ≤ x ∧ x ≤ hi)) && ((l.length : Int) == n)) := by
 unfold Xbf
 rw [Yim (fun x => decide (lo ≤ x ∧ x ≤ hi)) l (Xlk l lo hi) (by
   intro i hi
   unfold Xlk
   rw [syA, rqA, Xar, Xad, wkA, Int.toNat_natCast]
   rfl) (by unfold Xlk; rw [snA]), Xad]
 cases l.all (fun x => decide (lo ≤ x ∧ x ≤ hi)) <;> rfl
theorem Xrs (l : List Int) (hl : l.length ≤ 9223372036854775806) : Xfi l = some (Yiu l) := by
 unfold Xfi Yiu
 rw [Xlj l _ _ _ hl, Xad]
 show some (l.all Yvd && ((l.length : Int) == 64)) = _
 have : ((l.length : Int) == 64) = decide (l.length = 64) := by rw [Bool.eq_iff_iff]; simp only [beq_iff_eq, decide_eq_true_eq]; omega
 rw [this, Bool.and_comm]
theorem Xwe {l : List Int} (h : Yiu l = true) : l.length = 64 ∧ l.all Yvd = true := by
 unfold Yiu at h; rw [Bool.and_eq_true, decide_eq_true_eq] at h; exact h
def Zby (l : List Int) (c : Xfs) : List Int := if (c.Large || c.Exact) = true then Xzc l else Xzc (l.take 16) ++ Xzc ((l.drop 16).take 16) ++ Xzc ((l.drop 32).take 16) ++ Xzc (l.drop 48)
theorem Xhm {l : List Int} (h : l.all Yvd = true) (n : Nat) : (l.take n).all Yvd = true := List.all_eq_true.2 fun x hx => List.all_eq_true.1 h x (List.mem_of_mem_take hx)
theorem Xhl {l : List Int} (h : l.all Yvd = true) (n : Nat) : (l.drop n).all Yvd = true := List.all_eq_true.2 fun x hx => List.all_eq_true.1 h x (List.mem_of_mem_drop hx)
theorem Yxx (l : List Int) (c : Xfs) : Xua (Zby l c) := by
 unfold Zby
 split
 ·
  exact Xu4 l
 ·
  exact Xa5 (Xa5 (Xa5 (Xu4 _) (Xu4 _)) (Xu4 _)) (Xu4 _)
theorem Xwd {l : List Int} {c : Xfs} (h : Yiu l = true) : (Zby l c).length ≤ 5148 := by
 obtain ⟨h1, h2⟩ := Xwe h
 unfold Zby
 split
 ·
  have := Xf8 l h2 (by omega); omega
 ·
  have a := Xf8 (l.take 16) (Xhm h2 _) (by rw [List.length_take]; omega)
  have b := Xf8 ((l.drop 16).take 16) (Xhm (Xhl h2 _) _) (by rw [List.length_take, List.length_drop]; omega)
  have c := Xf8 ((l.drop 32).take 16) (Xhm (Xhl h2 _) _) (by rw [List.length_take, List.length_drop]; omega)
  have d := Xf8 (l.drop 48) (Xhl h2 _) (by rw [List.length_drop]; omega)
  rw [List.length_take] at a
  rw [List.length_take, List.length_drop] at b c
  rw [List.length_drop] at d
  simp only [List.length_append]; omega
theorem Xx2 (l : List Int) (c : Xfs) (h : Yiu l = true) : Xm9 l c = some (strOfNums (Zby l c)) := by
 obtain ⟨h1, h2⟩ := Xwe h
 unfold Xm9 Zby
 rw [Ybj, Xad]
 by_cases e : (c.Large || c.Exact) = true
 ·
  rw [Xbk e, if_pos e, Xii l h2 (by omega), Xad]
 ·
  rw [Xba (by simpa using e), if_neg e]
  have a := Xf8 (l.take 16) (Xhm h2 _) (by rw [List.length_take]; omega)
  have b := Xf8 ((l.drop 16).take 16) (Xhm (Xhl h2 _) _) (by rw [List.length_take, List.length_drop]; omega)
  have c := Xf8 ((l.drop 32).take 16) (Xhm (Xhl h2 _) _) (by rw [List.length_take, List.length_drop]; omega)
  have d := Xf8 (l.drop 48) (Xhl h2 _) (by rw [List.length_drop]; omega)
  have s1 := Xii (l.take 16) (Xhm h2 _) (by rw [List.length_take]; omega)
  have s2 := Xii ((l.drop 16).take 16) (Xhm (Xhl h2 _) _) (by rw [List.length_take, List.length_drop]; omega)
  have s3 := Xii ((l.drop 32).take 16) (Xhm (Xhl h2 _) _) (by rw [List.length_take, List.length_drop]; omega)
  have s4 := Xii (l.drop 48) (Xhl h2 _) (by rw [List.length_drop]; omega)
  rw [List.length_take] at a
  rw [List.length_take, List.length_drop] at b c
  rw [List.length_drop] at d
  rw [show ((16 : Int).toNat - (0 : Int).toNat) = 16 from rfl, show (0 : Int).toNat = 0 from rfl, List.drop_zero, show ((32 : Int).toNat - (16 : Int).toNat) = 16 from rfl, show (16 : Int).toNat = 16 from rfl, show ((48 : Int).toNat - (32 : Int).toNat) = 16 from rfl, show (32 : Int).toNat = 32 from rfl, show (48 : Int).toNat = 48 from rfl, Int.toNat_natCast, Zeg]
  rw [rqA, s1, Xad, rqA, s2, Xad, Xaz (by simp only [strOfNums_size]; omega), rqA, s3, Xad, Xa2, Xaz (by simp only [strOfNums_size, List.length_append]; omega), rqA, s4, Xad, Xa2, Xaz (by simp only [strOfNums_size, List.length_append]; omega), Xa2]
theorem Xrv (l : List Int) (c : Xfs) (h : Yiu l = true) : Xhd l c = some (Zby l c) := by
 have hm : maxLen = 9223372036854775807 := rfl
 obtain ⟨h1, h2⟩ := Xwe h
 unfold Xhd Zby
 rw [Ybj, Xad]
 by_cases e : (c.Large || c.Exact) = true
 ·
  rw [Xbk e, if_pos e, Yfe l h2 (by omega), Xad]
 ·
  rw [Xba (by simpa using e), if_neg e]
  have step : ∀ (n : Nat) (s : List Int), n < 4 → s.length ≤ 4000 → Xcz l ((n : Int), s) = some (.go (((n + 1 : Nat) : Int), s ++ Xzc ((l.drop (16 * n)).take 16))) := by
   intro n s hn hs
   have g := Xf8 ((l.drop (16 * n)).take 16) (Xhm (Xhl h2 _) _) (by rw [List.length_take, List.length_drop]; omega)
   rw [List.length_take, List.length_drop] at g
   unfold Xcz
   simp only
   rw [syA, wkA (e := 16 * (n : Int)), wkA (e := 16 * (n : Int) + 16), rqA, show (16 * (n : Int)).toNat = 16 * n by omega, show (16 * (n : Int) + 16).toNat - 16 * n = 16 by omega, Yfe _ (Xhm (Xhl h2 _) _) (by rw [List.length_take, List.length_drop]; omega), Xad, rqA, wkA]
   rfl
  have g0 := Xf8 ((l.drop (16 * 0)).take 16) (Xhm (Xhl h2 _) _) (by rw [List.length_take, List.length_drop]; omega)
  have g1 := Xf8 ((l.drop (16 * 1)).take 16) (Xhm (Xhl h2 _) _) (by rw [List.length_take, List.length_drop]; omega)
  have g2 := Xf8 ((l.drop (16 * 2)).take 16) (Xhm (Xhl h2 _) _) (by rw [List.length_take, List.length_drop]; omega)
  rw [List.length_take, List.length_drop] at g0 g1 g2
  have l4 : ∀ s, Xcz l (((4 : Nat) : Int), s) = some (.done s) := by intro s; unfold Xcz; simp only; rw [snA]
  have e : loop (Xcz l) (((0 : Nat) : Int), []) = some ([] ++ Xzc ((l.drop (16 * 0)).take 16) ++ Xzc ((l.drop (16 * 1)).take 16) ++ Xzc ((l.drop (16 * 2)).take 16) ++ Xzc ((l.drop (16 * 3)).take 16)) := by
   rw [Xdp (step 0 [] (by omega) (by simp)), Xdp (step 1 _ (by omega) (by simp only [List.length_append, List.length_nil]; omega)), Xdp (step 2 _ (by omega) (by simp only [List.length_append, List.length_nil]; omega)), Xdp (step 3 _ (by omega) (by simp only [List.length_append, List.length_nil]; omega)), Xe7 (l4 _)]
  refine (Xip e).trans ?_
  rw [List.nil_append, show 16 * 0 = 0 from rfl, List.drop_zero, show (l.drop (16 * 3)).take 16 = l.drop 48 from List.take_of_length_le (by rw [List.length_drop]; omega)]
def Xjc (c : Xfs) : Bool := decide (0 ≤ c.Qp ∧ c.Qp ≤ 40) && !(c.Large && c.Exact)
theorem Xfl (c : Xfs) : Xgw c = some (Xjc c) := by
 unfold Xgw Xjc
 rw [Xaj, Xad, Xta, Xdb, Xad]
 cases c.Large <;> cases c.Exact <;> rfl
theorem Xhc (c : Xfs) : Xff c = some (Xjc c) := by
 unfold Xff Xjc
 rw [Xar, Xad, Xta, Xdb, Xad]
 cases c.Large <;> cases c.Exact <;> rfl
def Xww (s : Xau) : Bool :=
 if s.Kind = 0 then decide (s.Mode = 0 ∧ s.Dx = 0 ∧ s.Dy = 0 ∧ s.Levels.length = 0)
 else if s.Kind = 1 then decide (s.Mode = 0) && (decide (-16 ≤ s.Dx ∧ s.Dx ≤ 16) && (decide (-16 ≤ s.Dy ∧ s.Dy ≤ 16) && Yiu s.Levels))
 else if s.Kind = 2 then decide (0 ≤ s.Mode ∧ s.Mode ≤ 3) && (decide (s.Dx = 0) && (decide (s.Dy = 0) && Yiu s.Levels))
 else false
theorem Yrn (a b : Int) : (a == b) = decide (a = b) := by rw [Bool.eq_iff_iff]; simp
theorem Yhl (s : Xau) : Xlz s = some (Xww s) := by
 unfold Xlz Xww
 simp only [Xaj, Yqh, Xad, Xdb, Yrn]
 simp only [Yd5]
 by_cases h0 : s.Kind = 0
 ·
  rw [if_pos h0, if_pos h0]; congr 1; rw [Bool.eq_iff_iff]; simp
 ·
  rw [if_neg h0, if_neg h0]
  by_cases h1 : s.Kind = 1
  ·
   rw [if_pos h1, if_pos h1]
  ·
   rw [if_neg h1, if_neg h1]
   by_cases h2 : s.Kind = 2
   ·
    rw [decide_eq_true h2, Bool.true_and, if_pos h2]
   ·
    rw [decide_eq_false h2, Bool.false_and, if_neg h2]
theorem Xtk (s : Xau) (hl : s.Levels.length ≤ 9223372036854775806) : Xis s = some (Xww s) := by
 unfold Xis Xww
 simp only [Xar, Xrs _ hl, Xad, Xdb, Yrn]
 simp only [Yd5]
 by_cases h0 : s.Kind = 0
 ·
  rw [if_pos h0, if_pos h0]; congr 1; rw [Bool.eq_iff_iff]; simp
 ·
  rw [if_neg h0, if_neg h0]
  by_cases h1 : s.Kind = 1
  ·
   rw [if_pos h1, if_pos h1]
  ·
   rw [if_neg h1, if_neg h1]
   by_cases h2 : s.Kind = 2
   ·
    rw [decide_eq_true h2, Bool.true_and, if_pos h2]
   ·
    rw [decide_eq_false h2, Bool.false_and, if_neg h2]
def Xv1 (s : Xau) (c : Xfs) : Bool := !c.Key || s.Kind == 2
def sqL (s : Xau) (c : Xfs) : List Int :=
 (if c.Key = true then [] else ueL s.Kind.toNat) ++
 (if s.Kind = 1 then seL s.Dx ++ seL s.Dy ++ Zby s.Levels c else if s.Kind = 2 then ueL s.Mode.toNat ++ Zby s.Levels c else [])
theorem Xv2 {s : Xau} (h : Xww s = true) : 0 ≤ s.Kind ∧ s.Kind ≤ 2 := by
 unfold Xww at h
 repeat' split at h
 all_goals first | omega | simp at h
theorem Yck {s : Xau} (h : Xww s = true) (h1 : s.Kind = 1) : (-16 ≤ s.Dx ∧ s.Dx ≤ 16) ∧ (-16 ≤ s.Dy ∧ s.Dy ≤ 16) ∧ Yiu s.Levels = true := by
 unfold Xww at h
 rw [if_neg (by omega), if_pos h1] at h
 simp only [Bool.and_eq_true, decide_eq_true_eq] at h
 exact ⟨h.2.1, h.2.2.1, h.2.2.2⟩
theorem Yix {s : Xau} (h : Xww s = true) (h1 : s.Kind = 2) : (0 ≤ s.Mode ∧ s.Mode ≤ 3) ∧ Yiu s.Levels = true := by
 unfold Xww at h
 rw [if_neg (by omega), if_neg (by omega), if_pos h1] at h
 simp only [Bool.and_eq_true, decide_eq_true_eq] at h
 exact ⟨h.1, h.2.2.2⟩
theorem Yw6 (s : Xau) (c : Xfs) : Xua (sqL s c) := by
 unfold sqL
 refine Xa5 ?_ ?_
 ·
  split
  ·
   exact Xsr
  ·
   exact Xg0 _
 ·
  split
  ·
   exact Xa5 (Xa5 (Xg0 _) (Xg0 _)) (Yxx _ _)
  ·
   split
   ·
    exact Xa5 (Xg0 _) (Yxx _ _)
   ·
    exact Xsr
theorem Yw7 {s : Xau} {c : Xfs} (h : Xww s = true) : (sqL s c).length ≤ 5265 := by
 have hk := Xv2 h
 have u := Xcv s.Kind.toNat (by omega)
 have e1 : (if c.Key = true then [] else ueL s.Kind.toNat).length ≤ 39 := by split; simp; exact u.1
 unfold sqL
 rw [List.length_append]
 by_cases h1 : s.Kind = 1
 ·
  obtain ⟨a, b, d⟩ := Yck h h1
  have x := Xod s.Dx (by omega)
  have y := Xod s.Dy (by omega)
  have z := Xwd (c := c) d
  rw [if_pos h1]; simp only [List.length_append]; omega
 ·
  by_cases h2 : s.Kind = 2
  ·
   obtain ⟨a, d⟩ := Yix h h2
   have x := Xcv s.Mode.toNat (by omega)
   have z := Xwd (c := c) d
   rw [if_neg h1, if_pos h2]; simp only [List.length_append]; omega
  ·
   rw [if_neg h1, if_neg h2]; simp only [List.length_nil]; omega
theorem Yqn (s : Xau) (c : Xfs) (h : Xww s = true) : Xp9 s c = some (strOfNums (sqL s c)) := by
 have hk := Xv2 h
 have u := Xcv s.Kind.toNat (by omega)
 unfold Xp9
 have e1 : (sel (!c.Key) (bnd (Xcm s.Kind) fun q2 => some q2) (some ⟨#[]⟩)) = some (strOfNums (if c.Key = true then [] else ueL s.Kind.toNat)) := by
  rw [show s.Kind = ((s.Kind.toNat : Nat) : Int) by omega, Xck _ (by omega), Xad, Int.toNat_natCast]
  cases c.Key <;> rfl
 rw [e1, Xad]
 have e2 : (if c.Key = true then [] else ueL s.Kind.toNat).length ≤ 39 := by split; simp; exact u.1
 unfold sqL
 generalize (if c.Key = true then [] else ueL s.Kind.toNat) = k at e2 ⊢
 by_cases h1 : s.Kind = 1
 ·
  obtain ⟨a, b, d⟩ := Yck h h1
  have x := Xod s.Dx (by omega)
  have y := Xod s.Dy (by omega)
  have z := Xwd (c := c) d
  rw [if_pos h1, Xbk (by simpa using h1), Xl2 _ (by omega), Xad, Xaz (by simp only [strOfNums_size]; omega), Xl2 _ (by omega), Xad, Xa2, Xaz (by simp only [strOfNums_size, List.length_append]; omega), Xx2 _ c d, Xad, Xa2, Xaz (by simp only [strOfNums_size, List.length_append]; omega), Xa2]
  simp only [List.append_assoc]
 ·
  rw [if_neg h1, Xba (by simpa using h1)]
  by_cases h2 : s.Kind = 2
  ·
   obtain ⟨a, d⟩ := Yix h h2
   have x := Xcv s.Mode.toNat (by omega)
   have z := Xwd (c := c) d
   rw [if_pos h2, Xbk (by simpa using h2), show s.Mode = ((s.Mode.toNat : Nat) : Int) by omega, Xck _ (by omega), Xad, Xaz (by simp only [strOfNums_size]; omega), Xx2 _ c d, Xad, Xa2, Xaz (by simp only [strOfNums_size, List.length_append]; omega), Xa2, Int.toNat_natCast]
   simp only [List.append_assoc]
  ·
   rw [if_neg h2, Xba (by simpa using h2), List.append_nil]
theorem Ydf (s : Xau) (c : Xfs) (hl : s.Levels.length ≤ 9223372036854775806) : Xjj s c = some (if (Xww s && (Xjc c && Xv1 s c)) = true then (strOfNums (sqL s c), true) else (⟨#[]⟩, false)) := by
 have hm : maxLen = 9223372036854775807 := rfl
 unfold Xjj Xee
 rw [Xtk s hl, Xad, Xhc, Xad, Xta, Xad, Xad]
 by_cases hok : (Xww s && (Xjc c && Xv1 s c)) = true
 ·
  rw [if_pos hok]
  simp only [Bool.and_eq_true] at hok
  obtain ⟨h, hc, hlet⟩ := hok
  have hk := Xv2 h
  have u := Xcv s.Kind.toNat (by omega)
  unfold Xv1 at hlet
  rw [h, hc, Xa0, Xa0, hlet, Xad, Bool.not_true, Xay]
  have e1 : (sel (!c.Key) (bnd (Xi8 s.Kind) fun q6 => req ((([] : List Int).length + (Xa8 q6).length) * 1 ≤ 140737488355328 ∧ ([] : List Int).length + (Xa8 q6).length ≤ maxLen) <| some (([] : List Int) ++ (Xa8 q6))) (some ([] : List Int))) = some (if c.Key = true then [] else ueL s.Kind.toNat) := by
   rw [show s.Kind = ((s.Kind.toNat : Nat) : Int) by omega, Xf3 _ (by omega), Xad, Xni _ (Xfu (Xg0 _)), Xaz (by simp only [List.length_nil]; omega), Int.toNat_natCast]
   cases c.Key <;> rfl
  rw [e1, Xad]
  have e2 : (if c.Key = true then [] else ueL s.Kind.toNat).length ≤ 39 := by split; simp; exact u.1
  unfold sqL
  generalize (if c.Key = true then [] else ueL s.Kind.toNat) = k at e2 ⊢
  by_cases h1 : s.Kind = 1
  ·
   obtain ⟨a, b, d⟩ := Yck h h1
   have x := Xod s.Dx (by omega)
   have y := Xod s.Dy (by omega)
   have z := Xwd (c := c) d
   rw [if_pos h1, Xbk (by simpa using h1), Xoq _ (by omega), Xad, Xoq _ (by omega), Xad]
   simp only
   rw [Xni (seL s.Dx) (Xfu (Xg0 _)), Xni (seL s.Dy) (Xfu (Xg0 _)), rqA, Xaz (by rw [List.length_append]; omega), Xrv _ c d, Xad, Xaz (by simp only [List.length_append]; omega), Xad]
   simp only [List.append_assoc]
  ·
   rw [if_neg h1, Xba (by simpa using h1)]
   by_cases h2 : s.Kind = 2
   ·
    obtain ⟨a, d⟩ := Yix h h2
    have x := Xcv s.Mode.toNat (by omega)
    have z := Xwd (c := c) d
    rw [if_pos h2, Xbk (by simpa using h2), show s.Mode = ((s.Mode.toNat : Nat) : Int) by omega, Xf3 _ (by omega), Xad, Xni _ (Xfu (Xg0 _)), rqA, Xrv _ c d, Xad, Xaz (by simp only [List.length_append]; omega), Xad, Int.toNat_natCast]
    simp only [List.append_assoc]
   ·
    rw [if_neg h2, Xba (by simpa using h2), Xad, List.append_nil]
 ·
  rw [if_neg hok]
  unfold Xv1 at hok
  cases h1 : Xww s <;> cases h2 : Xjc c <;> cases h3 : (!c.Key || s.Kind == 2) <;> simp_all [bnd, sel]
def Xmf : List Xau → Xfs → List Int
 | [], _ => []
 | s :: r, c => sqL s c ++ Xmf r c
def Yts (l : List Xau) (c : Xfs) : Bool := l.all fun s => Xww s && (Xjc c && Xv1 s c)
theorem Yrd : ∀ (l : List Xau) (c : Xfs), Xua (Xmf l c)
 | [], _ => Xsr
 | s :: r, c => Xa5 (Yw6 s c) (Yrd r c)
theorem Yre : ∀ {l : List Xau} {c : Xfs}, Yts l c = true → (Xmf l c).length ≤ 5265 * l.length
 | [], _, _ => by simp [Xmf]
 | s :: r, c, h => by
  unfold Yts at h
  rw [List.all_cons, Bool.and_eq_true, Bool.and_eq_true] at h
  have h1 := Yw7 (c := c) h.1.1
  have h2 := Yre (l := r) (c := c) h.2
  rw [Xmf, List.length_append, List.length_cons]; omega
def Ytx (l : List Xau) (c : Xfs) : ByteArray × Bool := if (decide (1 ≤ l.length ∧ l.length ≤ 64) && Yts l c) = true then (strOfNums (Xmf l c), true) else (⟨#[]⟩, false)
theorem Ykh (l : List Xau) (c : Xfs) (hs : ∀ s ∈ l, s.Levels.length ≤ 9223372036854775806) : Xks l c = some (Ytx l c) := by
 have hm : maxLen = 9223372036854775807 := rfl
 unfold Xks Ytx
 rw [Xar, Xad, Xs9]
 by_cases hl : 1 ≤ l.length ∧ l.length ≤ 64
 ·
  rw [syA, decide_eq_true hl, Bool.true_and]
  have key : ∀ (r a : List Xau) (t : List Int), l = a ++ r → t.length ≤ 5265 * a.length → loop (Xf0 l c) ((a.length : Int), t) = some (if Yts r c = true then .out (t ++ Xmf r c) else .ret (⟨#[]⟩, false)) := by
   intro r
   induction r with
   | nil =>
    intro a t ha _
    rw [List.append_nil] at ha
    exact Xf7 (by unfold Xf0; simp only; rw [Xav (by rw [ha]; omega), Xmf, List.append_nil]; rfl)
   | cons s r ih =>
    intro a t ha ht
    have hlen : a.length < l.length := by rw [ha]; simp
    have hx : l.getD a.length Xmg = s := by rw [ha]; exact Xgo a s _ r
    have hone : Yts (s :: r) c = ((Xww s && (Xjc c && Xv1 s c)) && Yts r c) := by unfold Yts; rw [List.all_cons]
    have hrow := Ydf s c (hs s (by rw [ha]; simp))
    rw [hone]
    cases e : (Xww s && (Xjc c && Xv1 s c)) with
    | true =>
     rw [e, if_pos rfl] at hrow
     have hok : Xww s = true := by rw [Bool.and_eq_true] at e; exact e.1
     have g := Yw7 (c := c) hok
     have hn := ih (a ++ [s]) (t ++ sqL s c) (by rw [ha]; simp) (by simp only [List.length_append, List.length_singleton]; omega)
     rw [List.length_append, List.length_singleton] at hn
     rw [Bool.true_and, Xmf, ← List.append_assoc, ← hn]
     refine Xdp ?_
     unfold Xf0
     simp only [Int.toNat_natCast, hx]
     rw [syA, rqA, show (⟨s.Kind, s.Mode, s.Dx, s.Dy, s.Levels⟩ : Xau) = s from rfl, hrow, Xad, Xs9, Xa0, Xni _ (Xfu (Yw6 _ _)), rqA, wkA]
     rfl
    | false =>
     rw [e, if_neg (by decide)] at hrow
     rw [Bool.false_and, if_neg (by decide)]
     refine Xf7 ?_
     unfold Xf0
     simp only [Int.toNat_natCast, hx]
     rw [syA, rqA, show (⟨s.Kind, s.Mode, s.Dx, s.Dy, s.Levels⟩ : Xau) = s from rfl, hrow, Xad, Xs9, Xay]
  refine (Xip (key l [] [] rfl (by simp))).trans ?_
  cases Yts l c <;> rfl
 ·
  rw [snA, decide_eq_false hl, Bool.false_and]; rfl
theorem Yrp (b : ByteArray) (i : Int) : 0 ≤ Yqy b i ∧ Yqy b i ≤ 255 := by
 unfold Yqy
 split
 ·
  rename_i h
  have := (b[i.toNat]'h).toNat_lt
  omega
 ·
  omega
theorem Xbj {p : Pic} (h : Xdq p = true) : (1 ≤ p.Wide ∧ p.Wide ≤ 256) ∧ (1 ≤ p.High ∧ p.High ≤ 256) ∧ (p.Dots.size : Int) = p.Wide * p.High := by
 unfold Xdq at h
 simp only [Bool.and_eq_true, decide_eq_true_eq, beq_iff_eq] at h
 exact ⟨h.1, h.2.1, h.2.2⟩
theorem Ys5 {p : Pic} (h1 : 1 ≤ p.Wide ∧ p.Wide ≤ 256) (h2 : 1 ≤ p.High ∧ p.High ≤ 256) (h3 : (p.Dots.size : Int) = p.Wide * p.High) : Xdq p = true := by
 unfold Xdq
 simp only [Bool.and_eq_true, decide_eq_true_eq, beq_iff_eq]
 exact ⟨h1, h2, h3⟩
def Xss (p : Pic) (x y : Int) : Int := Yqy p.Dots (Xbd y 0 (p.High - 1) * p.Wide + Xbd x 0 (p.Wide - 1))
theorem Xst (p : Pic) (x y : Int) : 0 ≤ Xss p x y ∧ Xss p x y ≤ 255 := Yrp _ _
theorem Yuf {p : Pic} (ok : Xdq p = true) (x y : Int) : 0 ≤ Xbd y 0 (p.High - 1) * p.Wide + Xbd x 0 (p.Wide - 1) ∧ Xbd y 0 (p.High - 1) * p.Wide + Xbd x 0 (p.Wide - 1) < p.Dots.size ∧ 0 ≤ Xbd y 0 (p.High - 1) * p.Wide ∧ Xbd y 0 (p.High - 1) * p.Wide ≤ 65536 := by
 obtain ⟨h1, h2, h3⟩ := Xbj ok
 have b1 := Xfv (n := y) (a := 0) (b := p.High - 1) (by omega)
 have b2 := Xfv (n := x) (a := 0) (b := p.Wide - 1) (by omega)
 have m1 := Int.mul_nonneg b1.1 (show 0 ≤ p.Wide by omega)
 have m2 := Int.mul_le_mul_of_nonneg_right b1.2 (show 0 ≤ p.Wide by omega)
 have m3 : (p.High - 1) * p.Wide = p.Wide * p.High - p.Wide := by rw [Int.sub_mul, Int.one_mul, Int.mul_comm]
 have m4 := (Xio h1 h2).2
 omega
theorem Ykn {p : Pic} (ok : Xdq p = true) (x y : Int) : Xe3 p x y = some (Xss p x y) := by
 obtain ⟨h1, h2, h3⟩ := Xbj ok
 unfold Xe3 Xss
 rw [Xho, Xad, Xho, Xad, wkA (e := p.High - 1), wkA (e := p.Wide - 1)]
 obtain ⟨p1, p2, p3, p4⟩ := Yuf ok x y
 have b2 := Xfv (n := x) (a := 0) (b := p.Wide - 1) (by omega)
 have br := Yrp p.Dots (Xbd y 0 (p.High - 1) * p.Wide + Xbd x 0 (p.Wide - 1))
 rw [wkA (e := Xbd y 0 (p.High - 1) * p.Wide), wkA (e := Xbd y 0 (p.High - 1) * p.Wide + Xbd x 0 (p.Wide - 1)), Xaz ⟨p1, p2⟩, wkA]
theorem Xlu {p : Pic} (ok : Xdq p = true) (x y : Int) : Xga p x y = some (Xss p x y) := by
 obtain ⟨h1, h2, h3⟩ := Xbj ok
 unfold Xga Xss
 rw [Xci, Xad, ok, Bool.not_true, Xay, Xdd, Xad, Xdd, Xad, wkA (e := p.High - 1), wkA (e := p.Wide - 1)]
 obtain ⟨p1, p2, p3, p4⟩ := Yuf ok x y
 have b2 := Xfv (n := x) (a := 0) (b := p.Wide - 1) (by omega)
 have br := Yrp p.Dots (Xbd y 0 (p.High - 1) * p.Wide + Xbd x 0 (p.Wide - 1))
 rw [wkA (e := Xbd y 0 (p.High - 1) * p.Wide), wkA (e := Xbd y 0 (p.High - 1) * p.Wide + Xbd x 0 (p.Wide - 1)), Xaz ⟨p1, p2⟩, wkA]
def Yy3 (p : Pic) (x y : Int) (i : Nat) : Int := Xss p (x + ((i % 8 : Nat) : Int)) (y + ((i / 8 : Nat) : Int))
def Xrl (p : Pic) (x y : Int) (n : Nat) : List Int := (List.range n).map (Yy3 p x y)
theorem Yua (p : Pic) (x y : Int) (n : Nat) : Xrl p x y (n + 1) = Xrl p x y n ++ [Yy3 p x y n] := by simp [Xrl, List.range_succ]
theorem Xx7 (p : Pic) (x y : Int) (n : Nat) : (Xrl p x y n).length = n := by simp [Xrl]
def Ywf (x : Int) : Bool := decide (0 ≤ x ∧ x ≤ 255)
def Xbq (l : List Int) : Bool := decide (l.length = 64) && l.all Ywf
theorem Xbm {l : List Int} (h : Xbq l = true) : l.length = 64 ∧ ∀ i : Nat, i < 64 → 0 ≤ l.getD i 0 ∧ l.getD i 0 ≤ 255 := by
 simp only [Xbq, Bool.and_eq_true, decide_eq_true_eq] at h
 refine ⟨h.1, fun i hi => ?_⟩
 have := List.all_eq_true.1 h.2 (l.getD i 0) (by rw [Xd8 l i (by omega)]; exact List.getElem_mem _)
 simpa [Ywf] using this
theorem Xk9 (p : Pic) (x y : Int) : Xbq (Xrl p x y 64) = true := by
 simp only [Xbq, Xx7, decide_true, Bool.true_and, List.all_eq_true]
 intro z hz
 obtain ⟨i, _, rfl⟩ := List.mem_map.1 hz
 simp only [Ywf, decide_eq_true_eq]
 exact Xst _ _ _
theorem Xh5 {p : Pic} (ok : Xdq p = true) (x y : Int) (hx : -1000 ≤ x ∧ x ≤ 1000) (hy : -1000 ≤ y ∧ y ≤ 1000) : Xe9 p x y = some (Xrl p x y 64) := by
 have hm : maxLen = 9223372036854775807 := rfl
 unfold Xe9
 rw [Xci, Xad, ok, Xa0, Xaj, Xad, syA, Xaj, Xad, Xad, decide_eq_true (by omega), Bool.not_true, Xay]
 have key : ∀ i : Nat, i ≤ 64 → loop (Xh6 p x y) ((i : Int), Xrl p x y i) = some (Xrl p x y 64) := by
  refine Xkb _ ?_ ?_
  ·
   exact Xf7 (by unfold Xh6; rw [Xav (by simp)])
  ·
   intro i hi ih
   refine lgo (y := (((i + 1 : Nat) : Int), Xrl p x y (i + 1))) ?_ ih
   unfold Xh6
   simp only
   rw [syA, rqA, rqA, Xb3 (by omega), Xbp (by omega), wkA (e := (i : Int) / 8), wkA (e := x + (i : Int) % 8), wkA (e := y + (i : Int) / 8), Xlu ok, Xad, Xaz (by rw [Xx7]; simp only [List.length_singleton]; omega), wkA (e := (i : Int) + 1)]
   have e2 : Xss p (x + (i : Int) % 8) (y + (i : Int) / 8) = Yy3 p x y i := by unfold Yy3; congr 1
   rw [e2, ← Yua]
   rfl
 have := key 0 (by omega)
 exact (Xip this).trans rfl
theorem Xgs {p : Pic} (ok : Xdq p = true) (x y : Int) (hx : -1000 ≤ x ∧ x ≤ 1000) (hy : -1000 ≤ y ∧ y ≤ 1000) : Xbu p x y = some (Xrl p x y 64) := by
 have hm : maxLen = 9223372036854775807 := rfl
 unfold Xbu
 rw [rqA]
 have key : ∀ r : Nat, r ≤ 8 → loop (Xe1 p x y) ((r : Int), Xrl p x y (8 * r)) = some (Xrl p x y 64) := by
  refine Xkb _ ?_ ?_
  ·
   exact Xf7 (by unfold Xe1; rw [Xav (by simp)])
  ·
   intro r hr ih
   refine lgo (y := (((r + 1 : Nat) : Int), Xrl p x y (8 * (r + 1)))) ?_ ih
   unfold Xe1
   simp only
   have inner : ∀ c : Nat, c ≤ 8 → loop (Xe2 p x y ((r : Int), Xrl p x y (8 * r))) ((c : Int), Xrl p x y (8 * r + c)) = some (Xrl p x y (8 * (r + 1))) := by
    refine Xkb _ ?_ ?_
    ·
     exact Xf7 (by unfold Xe2; rw [Xav (by simp)]; rfl)
    ·
     intro c hc ih2
     refine lgo (y := (((c + 1 : Nat) : Int), Xrl p x y (8 * r + (c + 1)))) ?_ ih2
     unfold Xe2
     simp only
     rw [syA, wkA (e := x + (c : Int)), wkA (e := y + (r : Int)), Ykn ok, Xad, Xaz (by rw [Xx7]; simp only [List.length_singleton]; omega), wkA (e := (c : Int) + 1)]
     have e2 : Xss p (x + (c : Int)) (y + (r : Int)) = Yy3 p x y (8 * r + c) := by
      unfold Yy3
      rw [show (8 * r + c) % 8 = c by omega, show (8 * r + c) / 8 = r by omega]
     rw [e2, ← Yua]
     rfl
   have i0 := inner 0 (by omega)
   rw [syA]
   refine (Xip i0).trans ?_
   rw [wkA (e := (r : Int) + 1)]
   rfl
 have := key 0 (by omega)
 exact (Xip this).trans rfl
def Ye8 (x : Int) : Int := if x < 0 then -x else x
def Xo7 (a b : List Int) : Nat → Int
 | 0 => 0
 | n + 1 => Xo7 a b n + Ye8 (a.getD n 0 - b.getD n 0)
theorem Xkm {a b : List Int} (ha : Xbq a = true) (hb : Xbq b = true) : ∀ n : Nat, n ≤ 64 → 0 ≤ Xo7 a b n ∧ Xo7 a b n ≤ 255 * n
 | 0, _ => by simp [Xo7]
 | n + 1, h => by
  have ih := Xkm ha hb n (by omega)
  have p := (Xbm ha).2 n (by omega)
  have q := (Xbm hb).2 n (by omega)
  simp only [Xo7, Ye8]
  split <;> omega
theorem Xs1 {a b : List Int} (ha : Xbq a = true) (hb : Xbq b = true) : Xqo a b = some (Xo7 a b 64) := by
 unfold Xqo
 have la := (Xbm ha).1
 have lb := (Xbm hb).1
 have key : ∀ i : Nat, i ≤ 64 → loop (Xpg a b) (Xo7 a b i, (i : Int)) = some (Xo7 a b 64) := by
  refine Xkb _ ?_ ?_
  ·
   exact Xf7 (by unfold Xpg; rw [Xav (by simp only; omega)])
  ·
   intro i hi ih
   refine lgo (y := (Xo7 a b (i + 1), ((i + 1 : Nat) : Int))) ?_ ih
   have p := (Xbm ha).2 i hi
   have q := (Xbm hb).2 i hi
   have g := Xkm ha hb i (by omega)
   unfold Xpg Xnu
   simp only [Int.toNat_natCast]
   rw [syA, rqA, rqA, wkA (e := a.getD i 0 - b.getD i 0), wkA (e := 0 - (a.getD i 0 - b.getD i 0)), Xad]
   have e : (if 0 - (a.getD i 0 - b.getD i 0) > a.getD i 0 - b.getD i 0 then 0 - (a.getD i 0 - b.getD i 0) else a.getD i 0 - b.getD i 0) = Ye8 (a.getD i 0 - b.getD i 0) := by
    unfold Ye8; split <;> split <;> omega
   have ab : 0 ≤ Ye8 (a.getD i 0 - b.getD i 0) ∧ Ye8 (a.getD i 0 - b.getD i 0) ≤ 255 := by unfold Ye8; split <;> omega
   rw [e, wkA (e := Xo7 a b i + Ye8 (a.getD i 0 - b.getD i 0)), wkA (e := (i : Int) + 1)]
   rfl
 exact (Xip (key 0 (by omega))).trans rfl
theorem Xhw (l : List Int) (hl : l.length ≤ 9223372036854775806) : Xbf l 64 0 255 = some (Xbq l) := by
 rw [Xlj l _ _ _ hl]
 have : ((l.length : Int) == 64) = decide (l.length = 64) := by rw [Bool.eq_iff_iff]; simp only [beq_iff_eq, decide_eq_true_eq]; omega
 rw [this, Bool.and_comm]
 rfl
def Yz3 (d : Int) : Int := ((seL d).length : Int)
theorem Xne (d : Int) (h : -500000 ≤ d ∧ d ≤ 500000) : Xmm d = some (Yz3 d) := by
 unfold Xmm Yz3
 rw [Xoq d h, Xad, strOfNums_size]
theorem Xwj (d : Int) (h : -500000 ≤ d ∧ d ≤ 500000) : 1 ≤ Yz3 d ∧ Yz3 d ≤ 39 := by
 unfold Yz3 seL
 have := Xcv (Yrv d) (Xz0 d h)
 omega
def Xdm (p : Pic) (x y : Int) : Bool := decide (0 ≤ x ∧ x ≤ p.Wide - 8 ∧ 0 ≤ y ∧ y ≤ p.High - 8)
theorem Yfc {p : Pic} (ok : Xdq p = true) (x y : Int) : Xjh p ⟨x, y, 8, 8⟩ = some (Xdm p x y) := by
 obtain ⟨k1, k2, k3⟩ := Xbj ok
 unfold Xjh Xdm
 simp only
 rw [Xar, Xad, Xar, Xad, wkA (e := p.Wide - 8), wkA (e := p.High - 8), Xar, Xad, Xar, Xad]
 simp only [Xdb, Xad]
 congr 1
 rw [Bool.eq_iff_iff]
 simp only [Bool.and_eq_true, decide_eq_true_eq]
 omega
theorem Xn9 {p : Pic} (ok : Xdq p = true) (x y : Int) (hx : x.tmod 8 = 0) (hy : y.tmod 8 = 0) (h : Xdm p x y = true) : Xbw p x y = some true := by
 obtain ⟨k1, k2, k3⟩ := Xbj ok
 unfold Xdm at h
 rw [decide_eq_true_eq] at h
 unfold Xbw
 rw [rqA, hx, rqA, hy, wkA (e := p.Wide - 8), wkA (e := p.High - 8), Xar, Xad, Xar, Xad, decide_eq_true (by omega), decide_eq_true (by omega)]
 rfl
def Xnh (p : Pic) (w : List Int) (x y dx dy : Int) : Int := Xo7 w (Xrl p (x + dx) (y + dy) 64) 64 + Yz3 dx + Yz3 dy
def BmI (p : Pic) (w : List Int) (x y r : Int) (past : Bool) (b : Int × Int × Int) : Prop :=
 (b = (0, 0, -1) ∧ past = false) ∨
 ((-r ≤ b.1 ∧ b.1 ≤ r) ∧ (-r ≤ b.2.1 ∧ b.2.1 ≤ r) ∧ Xdm p (x + b.1) (y + b.2.1) = true ∧ b.2.2 = Xnh p w x y b.1 b.2.1 ∧ (past = true → b.2.2 ≤ Xnh p w x y 0 0))
theorem Xxk {p : Pic} {w : List Int} (hw : Xbq w = true) (x y dx dy : Int) (hx : -100 ≤ dx ∧ dx ≤ 100) (hy : -100 ≤ dy ∧ dy ≤ 100) : 2 ≤ Xnh p w x y dx dy ∧ Xnh p w x y dx dy ≤ 20000 := by
 have g := Xkm hw (Xk9 p (x + dx) (y + dy)) 64 (by omega)
 have a := Xwj dx (by omega)
 have b := Xwj dy (by omega)
 unfold Xnh; omega
theorem Zed {p : Pic} {w : List Int} {x y r : Int} (ok : Xdq p = true) (hw : Xbq w = true) (hr : 0 ≤ r ∧ r ≤ 4) (h0 : Xdm p x y = true) (s : Int × Int × Int × Int) (hs : -r ≤ s.2.2.2 ∧ s.2.2.2 ≤ r) (v : Int × Int × Int × Int) (hv : -r ≤ v.2.2.2 ∧ v.2.2.2 ≤ r)
  (past : Bool) (hi : BmI p w x y r past (v.1, v.2.1, v.2.2.1)) (hp : past = true ↔ (s.2.2.2 > 0 ∨ (s.2.2.2 = 0 ∧ v.2.2.2 > 0))) :
  ∃ b, Xcw p w x y r s v = some (.go (b.1, b.2.1, b.2.2, v.2.2.2 + 1)) ∧ BmI p w x y r (decide (s.2.2.2 > 0 ∨ (s.2.2.2 = 0 ∧ v.2.2.2 + 1 > 0))) b := by
 obtain ⟨k1, k2, k3⟩ := Xbj ok
 have h0' := h0
 unfold Xdm at h0'
 rw [decide_eq_true_eq] at h0'
 unfold Xcw
 rw [Xbo hv.2, wkA (e := x + v.2.2.2), wkA (e := y + s.2.2.2), wkA (e := v.2.2.2 + 1), Yfc ok, Xad]
 cases hh : Xdm p (x + v.2.2.2) (y + s.2.2.2) with
 | false =>
  refine ⟨(v.1, v.2.1, v.2.2.1), rfl, ?_⟩
  have ne : ¬ (s.2.2.2 = 0 ∧ v.2.2.2 = 0) := by
   intro ⟨e1, e2⟩
   rw [e1, e2, Int.add_zero, Int.add_zero, h0] at hh
   cases hh
  rcases hi with ⟨h1, h2⟩ | ⟨h1, h2, h3, h4, h5⟩
  ·
   refine .inl ⟨h1, ?_⟩
   rw [decide_eq_false_iff_not]
   intro h
   have := hp.2 (by omega)
   rw [h2] at this; cases this
  ·
   refine .inr ⟨h1, h2, h3, h4, fun h => h5 (hp.2 ?_)⟩
   rw [decide_eq_true_eq] at h
   omega
 | true =>
  have hh' := hh
  unfold Xdm at hh'
  rw [decide_eq_true_eq] at hh'
  have hb := Xk9 p (x + v.2.2.2) (y + s.2.2.2)
  have g := Xkm hw hb 64 (by omega)
  have z1 := Xwj v.2.2.2 (by omega)
  have z2 := Xwj s.2.2.2 (by omega)
  rw [Bool.not_true, Xay, Xgs ok _ _ (by omega) (by omega), Xad, Xs1 hw hb, Xad, Xne _ (by omega), Xad, Xne _ (by omega), Xad, wkA (e := Xo7 w (Xrl p (x + v.2.2.2) (y + s.2.2.2) 64) 64 + Yz3 v.2.2.2), wkA, Ybj, Xad]
  have mc : Xo7 w (Xrl p (x + v.2.2.2) (y + s.2.2.2) 64) 64 + Yz3 v.2.2.2 + Yz3 s.2.2.2 = Xnh p w x y v.2.2.2 s.2.2.2 := rfl
  rw [mc]
  have m1 := Xxk (p := p) (w := w) hw x y v.2.2.2 s.2.2.2 (by omega) (by omega)
  cases hc : (decide (v.2.2.1 < 0) || decide (Xnh p w x y v.2.2.2 s.2.2.2 < v.2.2.1)) with
  | true =>
   refine ⟨(v.2.2.2, s.2.2.2, Xnh p w x y v.2.2.2 s.2.2.2), rfl, .inr ⟨hv, hs, hh, rfl, fun h => ?_⟩⟩
   rw [decide_eq_true_eq] at h
   by_cases e0 : s.2.2.2 = 0 ∧ v.2.2.2 = 0
   ·
    rw [e0.1, e0.2]; exact Int.le_refl _
   ·
    have hpast := hp.2 (by omega)
    rcases hi with ⟨h1, h2⟩ | ⟨h1, h2, h3, h4, h5⟩
    ·
     rw [h2] at hpast; cases hpast
    ·
     have h5' := h5 hpast
     simp only at h4 h5' ⊢
     have n1 := Xxk (p := p) (w := w) hw x y v.1 v.2.1 (by simp only at h1; omega) (by simp only at h2; omega)
     simp only [Bool.or_eq_true, decide_eq_true_eq] at hc
     omega
  | false =>
   refine ⟨(v.1, v.2.1, v.2.2.1), rfl, ?_⟩
   simp only [Bool.or_eq_false_iff, decide_eq_false_iff_not] at hc
   rcases hi with ⟨h1, h2⟩ | ⟨h1, h2, h3, h4, h5⟩
   ·
    simp only [Prod.mk.injEq] at h1
    omega
   ·
    refine .inr ⟨h1, h2, h3, h4, fun h => ?_⟩
    rw [decide_eq_true_eq] at h
    by_cases e0 : s.2.2.2 = 0 ∧ v.2.2.2 = 0
    ·
     have := hc.2
     rw [e0.1, e0.2] at this
     simp only; omega
    ·
     exact h5 (hp.2 (by omega))
theorem Yft {p : Pic} {w : List Int} {x y r : Int} (ok : Xdq p = true) (hw : Xbq w = true) (hr : 0 ≤ r ∧ r ≤ 4) (hx : x.tmod 8 = 0) (hy : y.tmod 8 = 0) (h0 : Xdm p x y = true) :
  ∃ b, Xdr p w x y r = some b ∧ (-r ≤ b.1 ∧ b.1 ≤ r) ∧ (-r ≤ b.2.1 ∧ b.2.1 ≤ r) ∧ Xdm p (x + b.1) (y + b.2.1) = true ∧ b.2.2 = Xnh p w x y b.1 b.2.1 ∧ b.2.2 ≤ Xnh p w x y 0 0 := by
 have hwl := (Xbm hw).1
 unfold Xdr
 rw [Xc4, Xad, ok, Xa0, Xhw w (by omega), Xad, hw, Xa0, Xar, Xad, decide_eq_true (by omega), Xa0, Xn9 ok x y hx hy h0, Xad, Bool.not_true, Xad, Xay, wkA (e := 0 - r)]
 obtain ⟨o, h, ho⟩ := Yit (f := Xfw p w x y r) (fun s => -r ≤ s.2.2.2 ∧ s.2.2.2 ≤ r + 1 ∧ BmI p w x y r (decide (s.2.2.2 > 0)) (s.1, s.2.1, s.2.2.1)) (fun s => (r + 1 - s.2.2.2).toNat) (fun _ b => BmI p w x y r true b) (by
  intro s ⟨g1, g2, g3⟩
  unfold Xfw
  by_cases hi : s.2.2.2 ≤ r
  ·
   rw [Xbo hi, wkA (e := s.2.2.2 + 1), wkA (e := 0 - r)]
   obtain ⟨o, h, ho⟩ := Yit (f := Xcw p w x y r s) (fun v => -r ≤ v.2.2.2 ∧ v.2.2.2 ≤ r + 1 ∧ BmI p w x y r (decide (s.2.2.2 > 0 ∨ (s.2.2.2 = 0 ∧ v.2.2.2 > 0))) (v.1, v.2.1, v.2.2.1)) (fun v => (r + 1 - v.2.2.2).toNat) (fun _ b => BmI p w x y r (decide (s.2.2.2 + 1 > 0)) b) (by
    intro v ⟨f1, f2, f3⟩
    by_cases hv : v.2.2.2 ≤ r
    ·
     obtain ⟨b, e, hb⟩ := Zed ok hw hr h0 s ⟨g1, hi⟩ v ⟨f1, hv⟩ _ f3 (by rw [decide_eq_true_eq])
     exact .inr ⟨_, e, ⟨by simp only; omega, by simp only; omega, hb⟩, by simp only; omega, fun _ h => h⟩
    ·
     refine .inl ⟨(v.1, v.2.1, v.2.2.1), ?_, ?_⟩
     ·
      unfold Xcw; rw [Xav hv]
     ·
      have : decide (s.2.2.2 > 0 ∨ (s.2.2.2 = 0 ∧ v.2.2.2 > 0)) = decide (s.2.2.2 + 1 > 0) := by
       rw [decide_eq_decide]; omega
      rw [this] at f3
      exact f3) (s.1, s.2.1, s.2.2.1, 0 - r) ⟨by simp only; omega, by simp only; omega, by
    have : decide (s.2.2.2 > 0 ∨ (s.2.2.2 = 0 ∧ 0 - r > 0)) = decide (s.2.2.2 > 0) := by rw [decide_eq_decide]; omega
    simp only
    rw [this]; exact g3⟩
   rw [h, Xad]
   exact .inr ⟨_, rfl, ⟨by simp only; omega, by simp only; omega, ho⟩, by simp only; omega, fun _ h => h⟩
  ·
   rw [Xav hi]
   refine .inl ⟨_, rfl, ?_⟩
   rw [decide_eq_true (by omega)] at g3
   exact g3) (0, 0, -1, 0 - r) ⟨by simp only; omega, by simp only; omega, .inl ⟨rfl, by simp only [decide_eq_false_iff_not]; omega⟩⟩
 rw [h, Xad]
 rcases ho with ⟨_, h2⟩ | ⟨h1, h2, h3, h4, h5⟩
 ·
  cases h2
 ·
  exact ⟨_, rfl, h1, h2, h3, h4, h5 rfl⟩
theorem Yez (s : ByteArray) : strOfNums (Xa8 s) = s := by
 apply ByteArray.ext
 apply Array.ext'
 simp only [strOfNums, Xa8, List.map_map]
 conv => rhs; rw [← List.map_id s.data.toList]
 refine List.map_congr_left fun c _ => ?_
 simp
def inB (B : Int) (l : List Int) : Prop := ∀ x ∈ l, -B ≤ x ∧ x ≤ B
theorem Xqp {B C : Int} {l : List Int} (h : inB B l) (hc : B ≤ C) : inB C l := fun x hx => by have := h x hx; omega
theorem Xmv {B : Int} {a b : List Int} (ha : inB B a) (hb : inB B b) : inB B (a ++ b) := fun x hx => (List.mem_append.1 hx).elim (ha x) (hb x)
theorem Xyv (B : Int) : inB B [] := fun x hx => by simp at hx
theorem Ysk {B x : Int} (h : -B ≤ x ∧ x ≤ B) : inB B [x] := fun y hy => by rw [List.mem_singleton.1 hy]; exact h
theorem Ywp {B : Int} {l : List Int} (h : inB B l) (i : Nat) {y : Int} (hy : -B ≤ y ∧ y ≤ B) : inB B (l.set i y) := fun x hx => by
 rcases List.mem_or_eq_of_mem_set hx with hx | hx
 ·
  exact h x hx
 ·
  rw [hx]; exact hy
theorem Ywo (n : Nat) {B : Int} (h : 0 ≤ B) : inB B (List.replicate n 0) := fun x hx => by rw [List.eq_of_mem_replicate hx]; omega
theorem Xnw {B : Int} {l : List Int} (h : inB B l) {i : Nat} (hi : i < l.length) : -B ≤ l.getD i 0 ∧ l.getD i 0 ≤ B := h _ (by rw [Xd8 l i hi]; exact List.getElem_mem _)
theorem Yxq {B : Int} {l : List Int} (h : inB B l) (n : Nat) : inB B (l.take n) := fun x hx => h x (List.mem_of_mem_take hx)
theorem Yxo {B : Int} {l : List Int} (h : inB B l) (n : Nat) : inB B (l.drop n) := fun x hx => h x (List.mem_of_mem_drop hx)
theorem Xdz {S : Type} {f : Int × S → Option (Lp (Int × S) S)} (n : Nat) (I : Nat → S → Prop) (hs : ∀ (i : Nat) (l : S), i < n → I i l → ∃ l', f ((i : Int), l) = some (.go (((i + 1 : Nat) : Int), l')) ∧ I (i + 1) l') (he : ∀ l, f ((n : Int), l) = some (.done l)) (l0 : S) (h0 : I 0 l0) : ∃ o, loop f (0, l0) = some o ∧ I n o := by
 have key : ∀ i : Nat, i ≤ n → ∀ l, I i l → ∃ o, loop f ((i : Int), l) = some o ∧ I n o := by
  refine Xkb _ ?_ ?_
  ·
   intro l h; exact ⟨l, Xf7 (he l), h⟩
  ·
   intro i hi ih l h
   obtain ⟨l', e, h'⟩ := hs i l hi h
   obtain ⟨o, e2, h2⟩ := ih l' h'
   exact ⟨o, lgo e e2, h2⟩
 exact key 0 (by omega) l0 h0
theorem Xqi {S : Type} {f : S × Int → Option (Lp (S × Int) S)} (n : Nat) (I : Nat → S → Prop) (hs : ∀ (i : Nat) (l : S), i < n → I i l → ∃ l', f (l, (i : Int)) = some (.go (l', ((i + 1 : Nat) : Int))) ∧ I (i + 1) l') (he : ∀ l, f (l, (n : Int)) = some (.done l)) (l0 : S) (h0 : I 0 l0) : ∃ o, loop f (l0, 0) = some o ∧ I n o := by
 have key : ∀ i : Nat, i ≤ n → ∀ l, I i l → ∃ o, loop f (l, (i : Int)) = some o ∧ I n o := by
  refine Xkb _ ?_ ?_
  ·
   intro l h; exact ⟨l, Xf7 (he l), h⟩
  ·
   intro i hi ih l h
   obtain ⟨l', e, h'⟩ := hs i l hi h
   obtain ⟨o, e2, h2⟩ := ih l' h'
   exact ⟨o, lgo e e2, h2⟩
 exact key 0 (by omega) l0 h0
theorem Xfe (l : List Int) (i j : Nat) (y : Int) (hi : i < l.length) : (l.set i y).getD j 0 = if i = j then y else l.getD j 0 := by
 rw [List.getD_eq_getElem?_getD, List.getElem?_set, List.getD_eq_getElem?_getD]
 by_cases h : i = j
 ·
  subst h; rw [if_pos rfl, if_pos rfl, if_pos hi]; rfl
 ·
  rw [if_neg h, if_neg h]
theorem Xng {f : Int × List Int → Option (Lp (Int × List Int) (List Int))} (n : Nat) (P Q : Int → Prop) (hs : ∀ (i : Nat) (l : List Int), i < n → l.length = n → P (l.getD i 0) → ∃ y, f ((i : Int), l) = some (.go (((i + 1 : Nat) : Int), l.set i y)) ∧ Q y) (he : ∀ l, f ((n : Int), l) = some (.done l)) (l0 : List Int) (h0 : l0.length = n) (hb : ∀ x ∈ l0, P x) : ∃ o, loop f (0, l0) = some o ∧ o.length = n ∧ ∀ x ∈ o, Q x := by
 obtain ⟨o, e, h1, h2, _⟩ := Xdz (f := f) n (fun i l => l.length = n ∧ (∀ j, j < i → Q (l.getD j 0)) ∧ ∀ j, i ≤ j → j < n → P (l.getD j 0)) (by
  intro i l hi ⟨g1, g2, g3⟩
  obtain ⟨y, e, hy⟩ := hs i l hi g1 (g3 i (Nat.le_refl _) hi)
  refine ⟨_, e, by rw [List.length_set]; exact g1, fun j hj => ?_, fun j hj hj2 => ?_⟩
  ·
   rw [Xfe l i j y (by omega)]
   by_cases h : i = j
   ·
    rw [if_pos h]; exact hy
   ·
    rw [if_neg h]; exact g2 j (by omega)
  ·
   rw [Xfe l i j y (by omega), if_neg (by omega)]; exact g3 j (by omega) hj2) he l0 ⟨h0, fun j hj => by omega, fun j _ hj => hb _ (by rw [Xd8 l0 j (by omega)]; exact List.getElem_mem _)⟩
 refine ⟨o, e, h1, fun x hx => ?_⟩
 obtain ⟨j, hj, rfl⟩ := List.getElem_of_mem hx
 have := h2 j (by omega)
 rwa [Xd8 o j hj] at this
theorem Xcl (l : List Int) (n B : Int) (hn : (l.length : Int) = n) (hn2 : n ≤ 1000000) (hB : 0 ≤ B ∧ B ≤ 100000000) (h : inB B l) : Xbt l n B = some true := by
 unfold Xbt
 rw [Xba (by simp only [bne_eq_false_iff_eq]; exact hn), Xsd l.length (f := Xd0 l n B) (by
  intro i hi
  have := Xnw h hi
  unfold Xd0
  rw [syA, rqA, wkA (e := 0 - B), Xaj, Xad, Int.toNat_natCast, decide_eq_true (by omega), Bool.not_true, Xay, wkA]
  rfl) (by unfold Xd0; rw [snA]), Xad]
def Ybh (n i : Int) (v17 : Int × Int) : Option (Lp (Int × Int) (Ou Unit Int)) :=
 sel (decide (v17.2 ≤ (Xaa .i64 ((Xaa .i64 (2 * n)) - 2)))) (
 bnd (it (Xpy n i v17) 20 (v17.1, 0)) fun o47 => match o47 with
 | .out v43 => (
 some (.go (v43, Xaa .i64 (v17.2 + 1))))
 | .ret r => some (.done (.ret r))) (
 some (.done (.out ())))
theorem Yvt {n i : Int} {v : Int × Int} {x : Lp (Int × Int) (Ou Unit Int)} (h : Ybh n i v = some x) : Xly n i v = some x := by
 unfold Ybh at h
 unfold Xly
 rcases Xj6 h with ⟨hb, h⟩ | ⟨hb, h⟩
 ·
  rw [hb, Xa0]
  obtain ⟨a, h1, h2⟩ := Xa3 h
  rw [Xi9.2 ⟨20, h1⟩, Xad]
  exact h2
 ·
  rw [hb, Xay]; exact h
theorem Zcq {V O : Type} {f g : V → Option (Lp V O)} (hf : ∀ v y, f v = some y → g v = some y) {o : O} : ∀ (k : Nat) (v : V), it f k v = some o → it g k v = some o
 | 0, v, h => by cases h
 | k + 1, v, h => by
  rw [it] at h ⊢
  cases e : f v with
  | none => rw [e] at h; cases h
  | some s =>
   rw [e] at h
   rw [hf v s e]
   cases s with
   | go y => exact Zcq hf k y h
   | done o' => exact h
def Xg6 (n i : Int) : Int := match it (Ybh n i) 20 (0, 0) with | some (.ret q) => q | _ => -1
theorem Zc4 : ∀ i : Fin 16, (0 ≤ Xg6 4 (i.val : Int) ∧ Xg6 4 (i.val : Int) < 16) := by decide +kernel
theorem Zc5 : ∀ i : Fin 64, (0 ≤ Xg6 8 (i.val : Int) ∧ Xg6 8 (i.val : Int) < 64) := by decide +kernel
theorem Xh2 (n : Int) (hn : n = 4 ∨ n = 8) (i : Nat) (hi : (i : Int) < n * n) : 0 ≤ Xg6 n i ∧ Xg6 n i < n * n := by
 rcases hn with rfl | rfl
 ·
  exact Zc4 ⟨i, by omega⟩
 ·
  exact Zc5 ⟨i, by omega⟩
theorem Xhg (n : Int) (hn : n = 4 ∨ n = 8) (i : Nat) (hi : (i : Int) < n * n) : Xm5 n i = some (Xg6 n i) := by
 have hp := Xh2 n hn i hi
 unfold Xm5
 have hw : Xaa .i64 (n * n) = n * n := by rcases hn with rfl | rfl <;> exact wkA
 have hc : (sel (n != 4) (sel (n != 8) (some true) (sel (decide ((i : Int) < 0)) (some true) (some (decide ((i : Int) ≥ (Xaa .i64 (n * n))))))) (sel (decide ((i : Int) < 0)) (some true) (some (decide ((i : Int) ≥ (Xaa .i64 (n * n))))))) = some false := by
  rw [hw, Xav (show ¬ (i : Int) < 0 by omega), decide_eq_false (show ¬ (i : Int) ≥ n * n by omega)]
  rcases hn with rfl | rfl <;> rfl
 rw [hc, Xad, Xay]
 unfold Xg6 at hp ⊢
 cases e : it (Ybh n i) 20 (0, 0) with
 | none => rw [e] at hp; simp only at hp; omega
 | some s =>
  rw [e] at hp
  have h := Zcq (fun v y => Yvt (n := n) (i := i)) 20 _ e
  rw [Xi9.2 ⟨20, h⟩, Xad]
  cases s with
  | out u => simp only at hp; omega
  | ret q => rfl
theorem Xp2 (n : Int) (hn : n = 4 ∨ n = 8) (l : List Int) (B : Int) (hl : (l.length : Int) = n * n) (hb : inB B l) : ∃ o, Xfb n l = some (o, true) ∧ o.length = l.length ∧ inB B o := by
 have hm : maxLen = 9223372036854775807 := rfl
 have hw : Xaa .i64 (n * n) = n * n := by rcases hn with rfl | rfl <;> exact wkA
 have hl2 : l.length ≤ 64 := by rcases hn with rfl | rfl <;> omega
 unfold Xfb
 have hc : (sel (n != 4) (sel (n != 8) (some true) (some ((l.length : Int) != (Xaa .i64 (n * n))))) (some ((l.length : Int) != (Xaa .i64 (n * n))))) = some false := by
  rw [hw, hl, bne_self_eq_false]
  rcases hn with rfl | rfl <;> rfl
 rw [hc, Xad, Xay]
 obtain ⟨o, e, h1, h2⟩ := Xdz (f := Xdh n l) l.length (fun i s => s.length = i ∧ inB B s) (by
  intro i s hi ⟨g1, g2⟩
  have hp := Xh2 n hn i (by omega)
  have ha := Xnw hb (i := (Xg6 n i).toNat) (by omega)
  unfold Xdh
  simp only
  rw [hw, syA, Xhg n hn i (by omega), Xad, rqA, Xaz (by simp only [List.length_singleton]; omega), wkA]
  exact ⟨_, rfl, by simp; omega, Xmv g2 (Ysk ha)⟩) (by intro s; unfold Xdh; simp only; rw [hw, snA]) [] ⟨rfl, Xyv B⟩
 exact ⟨o, (Xip e).trans rfl, h1, h2⟩
theorem Xgd (n : Int) (hn : n = 4 ∨ n = 8) (l : List Int) (B : Int) (hB : 0 ≤ B) (hl : (l.length : Int) = n * n) (hb : inB B l) : ∃ o, Xc6 n l = some (o, true) ∧ o.length = l.length ∧ inB B o := by
 have hm : maxLen = 9223372036854775807 := rfl
 have hw : Xaa .i64 (n * n) = n * n := by rcases hn with rfl | rfl <;> exact wkA
 have hl2 : l.length ≤ 64 := by rcases hn with rfl | rfl <;> omega
 unfold Xc6
 have hc : (sel (n != 4) (sel (n != 8) (some true) (some ((l.length : Int) != (Xaa .i64 (n * n))))) (some ((l.length : Int) != (Xaa .i64 (n * n))))) = some false := by
  rw [hw, hl, bne_self_eq_false]
  rcases hn with rfl | rfl <;> rfl
 rw [hc, Xad, Xay, rqA, Int.toNat_natCast]
 obtain ⟨o, e, h1, h2⟩ := Xdz (f := Xb8 n l) l.length (fun i s => s.length = l.length ∧ inB B s) (by
  intro i s hi ⟨g1, g2⟩
  have hp := Xh2 n hn i (by omega)
  have ha := Xnw hb hi
  unfold Xb8
  simp only
  rw [hw, syA, Xhg n hn i (by omega), Xad, rqA, rqA, rqA, wkA, Int.toNat_natCast]
  exact ⟨_, rfl, by rw [List.length_set]; exact g1, Ywp g2 _ ha⟩) (by intro s; unfold Xb8; simp only; rw [hw, snA]) (List.replicate l.length 0) ⟨List.length_replicate, Ywo _ hB⟩
 exact ⟨o, (Xip e).trans rfl, h1, h2⟩
def Xjo (u v : Int) : Int := match it Xjq 10 (1, (IntKind.wrap .i64 (BitVec.ofInt (IntKind.bits .i64) u &&& BitVec.ofInt (IntKind.bits .i64) v).toNat)) with | some q => q | none => 7
theorem Zbi : ∀ u v : Fin 8, (-1 ≤ Xjo (u.val : Int) (v.val : Int) ∧ Xjo (u.val : Int) (v.val : Int) ≤ 1) := by decide +kernel
theorem Xxw (u v : Nat) (hu : u < 8) (hv : v < 8) : ∃ s, Xia u v = some s ∧ -1 ≤ s ∧ s ≤ 1 := by
 have h := Zbi ⟨u, hu⟩ ⟨v, hv⟩
 simp only at h
 unfold Xia
 rw [Xaj, Xad, decide_eq_true (by omega), Xa0, Xaj, Xad, decide_eq_true (by omega), Bool.not_true, Xad, Xay]
 unfold Xjo at h
 cases e : it Xjq 10 (1, (IntKind.wrap .i64 (BitVec.ofInt (IntKind.bits .i64) (u : Int) &&& BitVec.ofInt (IntKind.bits .i64) (v : Int)).toNat)) with
 | none => rw [e] at h; simp only at h; omega
 | some q =>
  rw [e] at h
  rw [Xi9.2 ⟨10, e⟩, Xad]
  exact ⟨q, rfl, h⟩
def Xtd (qp : Int) : Int := if qp.tmod 6 = 0 then 10 else if qp.tmod 6 = 1 then 11 else if qp.tmod 6 = 2 then 13 else if qp.tmod 6 = 3 then 14 else if qp.tmod 6 = 4 then 16 else 18
def Xqd (qp : Int) : Int := match it (Xjt qp) 10 (Xtd qp, 0) with | some q => q | none => 0
theorem Zbn : ∀ q : Fin 41, (10 ≤ Xqd (q.val : Int) ∧ Xqd (q.val : Int) ≤ 1152) := by decide +kernel
theorem Xxz (qp : Int) (h0 : 0 ≤ qp ∧ qp ≤ 40) : ∃ s, Xgz qp = some s ∧ 10 ≤ s ∧ s ≤ 1152 := by
 have h := Zbn ⟨qp.toNat, by omega⟩
 simp only at h
 rw [show ((qp.toNat : Nat) : Int) = qp by omega] at h
 unfold Xgz
 rw [Xaj, Xad, decide_eq_true (by omega), Bool.not_true, Xay, rqA]
 have hb : (sel ((qp.tmod 6) == 0) (some (10 : Int)) (sel ((qp.tmod 6) == 1) (some 11) (sel ((qp.tmod 6) == 2) (some 13) (sel ((qp.tmod 6) == 3) (some 14) (sel ((qp.tmod 6) == 4) (some 16) (some 18)))))) = some (Xtd qp) := by
  unfold Xtd
  simp only [Yls, beq_iff_eq]
  repeat' split
  all_goals rfl
 rw [hb, Xad]
 unfold Xqd at h
 cases e : it (Xjt qp) 10 (Xtd qp, 0) with
 | none => rw [e] at h; simp only at h; omega
 | some q =>
  rw [e] at h
  rw [Xi9.2 ⟨10, e⟩, Xad]
  exact ⟨q, rfl, h⟩
theorem Xrd (p : Int) (h : 0 ≤ p ∧ p ≤ 15) : ∃ k, Xkg p = some k ∧ 0 ≤ k ∧ k ≤ 2 := by
 unfold Xkg
 rw [Xaj, Xad, decide_eq_true h, Bool.not_true, Xay, rqA, rqA, rqA, rqA, Xdb, Xad]
 cases ((Xaa .i64 (p.tdiv 4)).tmod 2 == 0 && (p.tmod 4).tmod 2 == 0) with
 | true => exact ⟨0, rfl, by omega, by omega⟩
 | false =>
  rw [Xay, Xdb, Xad]
  cases ((Xaa .i64 (p.tdiv 4)).tmod 2 == 1 && (p.tmod 4).tmod 2 == 1) with
  | true => exact ⟨1, rfl, by omega, by omega⟩
  | false => exact ⟨2, rfl, by omega, by omega⟩
theorem Xa4 (k a b c : Int) : ∃ x, Xa9 k a b c = some x ∧ (x = a ∨ x = b ∨ x = c) := by
 unfold Xa9
 cases (k == 0) with
 | true => exact ⟨a, rfl, Or.inl rfl⟩
 | false =>
  cases (k == 1) with
  | true => exact ⟨b, rfl, Or.inr (Or.inl rfl)⟩
  | false => exact ⟨c, rfl, Or.inr (Or.inr rfl)⟩
theorem Yzm (qp : Int) (h0 : 0 ≤ qp ∧ qp ≤ 40) (x : Int) (hx : 0 ≤ x ∧ x ≤ 29) : ∃ o, loop (Xek qp) (x, 0) = some o ∧ 0 ≤ o ∧ o ≤ 1856 := by
 obtain ⟨o, e, h1, h2⟩ := Xqi (f := Xek qp) (qp / 6).toNat (fun i s => 0 ≤ s ∧ s ≤ 29 * 2 ^ i) (by
  intro i s hi ⟨g1, g2⟩
  have h6 : (2 : Int) ^ i ≤ 64 := by
   have : i ≤ 6 := by omega
   obtain rfl | rfl | rfl | rfl | rfl | rfl | rfl : i = 0 ∨ i = 1 ∨ i = 2 ∨ i = 3 ∨ i = 4 ∨ i = 5 ∨ i = 6 := by omega
   all_goals decide
  have h7 : (2 : Int) ^ (i + 1) = 2 * 2 ^ i := by rw [Int.pow_succ, Int.mul_comm]
  unfold Xek
  simp only
  rw [rqA, Xbp (by omega), wkA (e := qp / 6), syA, wkA (e := 2 * s), wkA (e := (i : Int) + 1)]
  exact ⟨_, rfl, by omega, by rw [h7]; omega⟩) (by intro s; unfold Xek; simp only; rw [rqA, Xbp (by omega), wkA (e := qp / 6), snA]) x ⟨hx.1, by simp; omega⟩
 have h6 : (2 : Int) ^ (qp / 6).toNat ≤ 64 := by
  generalize hi : (qp / 6).toNat = i
  obtain rfl | rfl | rfl | rfl | rfl | rfl | rfl : i = 0 ∨ i = 1 ∨ i = 2 ∨ i = 3 ∨ i = 4 ∨ i = 5 ∨ i = 6 := by omega
  all_goals decide
 exact ⟨o, e, h1, by omega⟩
theorem Yme (qp p : Int) (h0 : 0 ≤ qp ∧ qp ≤ 40) (hp : 0 ≤ p ∧ p ≤ 15) : ∃ s, Xh8 qp p = some s ∧ 0 ≤ s ∧ s ≤ 1856 := by
 unfold Xh8
 obtain ⟨k, e, k0, k1⟩ := Xrd p hp
 rw [e, Xad, Xaj, Xad, decide_eq_true h0, Xa0, decide_eq_false (by omega), Xad, Xay, rqA]
 obtain ⟨a1, e1, b1⟩ := Xa4 k 10 16 13
 obtain ⟨a2, e2, b2⟩ := Xa4 k 11 18 14
 obtain ⟨a3, e3, b3⟩ := Xa4 k 13 20 16
 obtain ⟨a4, e4, b4⟩ := Xa4 k 14 23 18
 obtain ⟨a5, e5, b5⟩ := Xa4 k 16 25 20
 obtain ⟨a6, e6, b6⟩ := Xa4 k 18 29 23
 rw [e1, e2, e3, e4, e5, e6]
 simp only [Xad, Yyj]
 obtain ⟨o, eo, o1, o2⟩ := Yzm qp h0 (sel (qp.tmod 6 == 0) a1 (sel (qp.tmod 6 == 1) a2 (sel (qp.tmod 6 == 2) a3 (sel (qp.tmod 6 == 3) a4 (sel (qp.tmod 6 == 4) a5 (sel (qp.tmod 6 == 5) a6 0)))))) (by
  simp only [Yls]
  repeat' split
  all_goals omega)
 exact ⟨o, (Xip eo).trans rfl, o1, o2⟩
theorem Ymi (qp p : Int) (h0 : 0 ≤ qp ∧ qp ≤ 40) (hp : 0 ≤ p ∧ p ≤ 15) : ∃ s, Xh9 qp p = some s ∧ 0 ≤ s ∧ s ≤ 13107 := by
 unfold Xh9
 obtain ⟨k, e, k0, k1⟩ := Xrd p hp
 rw [e, Xad, Xaj, Xad, decide_eq_true h0, Xa0, decide_eq_false (by omega), Xad, Xay, rqA]
 obtain ⟨a1, e1, b1⟩ := Xa4 k 13107 5243 8066
 obtain ⟨a2, e2, b2⟩ := Xa4 k 11916 4660 7490
 obtain ⟨a3, e3, b3⟩ := Xa4 k 10082 4194 6554
 obtain ⟨a4, e4, b4⟩ := Xa4 k 9362 3647 5825
 obtain ⟨a5, e5, b5⟩ := Xa4 k 8192 3355 5243
 obtain ⟨a6, e6, b6⟩ := Xa4 k 7282 2893 4559
 rw [e1, e2, e3, e4, e5, e6]
 simp only [Xad, Yyj]
 refine ⟨_, rfl, ?_⟩
 simp only [Yls]
 repeat' split
 all_goals omega
theorem Yx5 {a s B : Int} (ha : -B ≤ a ∧ a ≤ B) (hs : -1 ≤ s ∧ s ≤ 1) : (-B ≤ a * s ∧ a * s ≤ B) ∧ (-B ≤ s * a ∧ s * a ≤ B) := by
 obtain rfl | rfl | rfl : s = -1 ∨ s = 0 ∨ s = 1 := by omega
 all_goals omega
theorem Yqk (p : List Int) (B : Int) (hB : 0 ≤ B ∧ B ≤ 1000000000000) (hl : p.length = 64) (hb : inB B p) (i v : Nat) (hi : i < 8) (hv : v < 8) : ∃ o, Xkk p i v = some o ∧ -(8 * B) ≤ o ∧ o ≤ 8 * B := by
 unfold Xkk
 obtain ⟨o, e, h1, h2⟩ := Xqi (f := Xd2 p i v) 8 (fun k s => -(B * k) ≤ s ∧ s ≤ B * k) (by
  intro k s hk ⟨g1, g2⟩
  obtain ⟨q, eq, q0, q1⟩ := Xxw v k hv hk
  have ha := Xnw hb (i := 8 * i + k) (by omega)
  have hm := (Yx5 ha ⟨q0, q1⟩).1
  have hk8 : B * k ≤ B * 8 := Int.mul_le_mul_of_nonneg_left (by omega) hB.1
  have hk0 : B * ((k + 1 : Nat) : Int) = B * k + B := by rw [Int.natCast_add, Int.mul_add]; simp
  unfold Xd2
  simp only
  rw [syA, wkA (e := 8 * (i : Int)), wkA (e := 8 * (i : Int) + (k : Int)), rqA, eq, Xad, show (8 * (i : Int) + (k : Int)).toNat = 8 * i + k by omega, wkA (e := p.getD (8 * i + k) 0 * q), wkA (e := s + p.getD (8 * i + k) 0 * q), wkA (e := (k : Int) + 1)]
  exact ⟨_, rfl, by rw [hk0]; omega, by rw [hk0]; omega⟩) (by intro s; unfold Xd2; rw [Xav (by simp)]) 0 (by simp)
 exact ⟨o, (Xip e).trans rfl, by omega, by omega⟩
theorem Xvt (p : List Int) (B : Int) (hB : 0 ≤ B ∧ B ≤ 10000000000) (hl : p.length = 64) (hb : inB B p) : ∃ o, Xgk p = some o ∧ o.length = 64 ∧ inB (64 * B) o := by
 have hm : maxLen = 9223372036854775807 := rfl
 unfold Xgk
 obtain ⟨h, eh, hh1, hh2⟩ := Xdz (f := Xcr p) 8 (fun i s => s.length = 8 * i ∧ inB (8 * B) s) (by
  intro i s hi ⟨g1, g2⟩
  obtain ⟨t, et, t1, t2⟩ := Xdz (f := Xcs p ((i : Int), s)) 8 (fun v s => s.length = 8 * i + v ∧ inB (8 * B) s) (by
   intro v s hv ⟨g1, g2⟩
   obtain ⟨r, er, r1, r2⟩ := Yqk p B ⟨hB.1, by omega⟩ hl hb i v hi hv
   unfold Xcs
   simp only
   rw [syA, er, Xad, Xaz (by simp only [List.length_singleton]; omega), wkA (e := (v : Int) + 1)]
   exact ⟨_, rfl, by simp; omega, Xmv g2 (Ysk ⟨by omega, r2⟩)⟩) (by intro s; unfold Xcs; rw [Xav (by simp)]) s ⟨by omega, g2⟩
  unfold Xcr
  simp only
  rw [syA, et, Xad, wkA (e := (i : Int) + 1)]
  exact ⟨_, rfl, by omega, t2⟩) (by intro s; unfold Xcr; rw [Xav (by simp)]) [] ⟨rfl, Xyv _⟩
 rw [eh, Xad]
 obtain ⟨o, eo, o1, o2⟩ := Xdz (f := Xb9 h) 8 (fun i s => s.length = 8 * i ∧ inB (64 * B) s) (by
  intro i s hi ⟨g1, g2⟩
  obtain ⟨t, et, t1, t2⟩ := Xdz (f := Xca h ((i : Int), s)) 8 (fun v s => s.length = 8 * i + v ∧ inB (64 * B) s) (by
   intro v r hv ⟨g1, g2⟩
   obtain ⟨a, ea, a1, a2⟩ := Xqi (f := Xcb h ((i : Int), s) ((v : Int), r)) 8 (fun k s => -(8 * B * k) ≤ s ∧ s ≤ 8 * B * k) (by
    intro k c hk ⟨g1, g2⟩
    obtain ⟨q, eq, q0, q1⟩ := Xxw i k hi hk
    have ha := Xnw hh2 (i := 8 * k + v) (by omega)
    have hm := (Yx5 ha ⟨q0, q1⟩).2
    have hk8 : 8 * B * k ≤ 8 * B * 8 := Int.mul_le_mul_of_nonneg_left (by omega) (by omega)
    have hk0 : 8 * B * ((k + 1 : Nat) : Int) = 8 * B * k + 8 * B := by rw [Int.natCast_add, Int.mul_add]; simp
    unfold Xcb
    simp only
    rw [syA, eq, Xad, wkA (e := 8 * (k : Int)), wkA (e := 8 * (k : Int) + (v : Int)), rqA, rqA, show (8 * (k : Int) + (v : Int)).toNat = 8 * k + v by omega, wkA (e := q * h.getD (8 * k + v) 0), wkA (e := c + q * h.getD (8 * k + v) 0), wkA (e := (k : Int) + 1)]
    exact ⟨_, rfl, by rw [hk0]; omega, by rw [hk0]; omega⟩) (by intro s; unfold Xcb; rw [Xav (by simp)]) 0 (by simp)
   unfold Xca
   simp only
   rw [syA, ea, Xad, Xaz (by simp only [List.length_singleton]; omega), wkA (e := (v : Int) + 1)]
   exact ⟨_, rfl, by simp; omega, Xmv g2 (Ysk ⟨by omega, by omega⟩)⟩) (by intro s; unfold Xca; rw [Xav (by simp)]) s ⟨by omega, g2⟩
  unfold Xb9
  simp only
  rw [syA, et, Xad, wkA (e := (i : Int) + 1)]
  exact ⟨_, rfl, by omega, t2⟩) (by intro s; unfold Xb9; rw [Xav (by simp)]) [] ⟨rfl, Xyv _⟩
 exact ⟨o, (Xip eo).trans rfl, by omega, o2⟩
theorem Xl4 (a b : Int) (ha : -1000000000000 ≤ a ∧ a ≤ 1000000000000) (hb : b = 2 ∨ b = 64) : ∃ d, Xcq a b = some d ∧ b * d ≤ a ∧ a < b * d + b := by
 unfold Xcq
 have h1 : b * (a.tdiv b) + a.tmod b = a := Int.mul_tdiv_add_tmod a b
 have h2 : -b < a.tmod b ∧ a.tmod b < b := by
  have hb0 : 0 < b := by omega
  refine ⟨?_, Int.tmod_lt_of_pos a hb0⟩
  have := Int.lt_tmod_of_pos a hb0
  omega
 rw [rqA, rqA]
 generalize a.tmod b = m at h1 h2
 generalize a.tdiv b = t at h1 h2
 have ht : -1000000000001 ≤ t ∧ t ≤ 1000000000001 := by rcases hb with rfl | rfl <;> omega
 by_cases h : m < 0
 ·
  rw [Xbo h, Xad, wkA (e := t), wkA (e := t - 1)]
  refine ⟨_, rfl, ?_⟩
  rcases hb with rfl | rfl <;> omega
 ·
  rw [Xav h, Xad, wkA (e := t)]
  refine ⟨_, rfl, ?_⟩
  rcases hb with rfl | rfl <;> omega
theorem Ybp (p : List Int) (hl : p.length = 64) (hb : inB 255 p) : ∃ o, Xm4 p = some o ∧ o.length = 64 := by
 unfold Xm4
 obtain ⟨o, e, h1, h2⟩ := Xvt p 255 (by omega) hl hb
 rw [Xcl p 64 1000 (by omega) (by omega) (by omega) (Xqp hb (by omega)), Xad, Bool.not_true, Xay, e, Xad]
 exact ⟨o, rfl, h1⟩
theorem Yec (p : List Int) (hl : p.length = 64) (hb : inB 5760000 p) : ∃ o, Xfm p = some o ∧ o.length = 64 ∧ inB 10000000 o := by
 unfold Xfm
 obtain ⟨o, e, h1, h2⟩ := Xvt p 5760000 (by omega) hl hb
 rw [Xcl p 64 10000000 (by omega) (by omega) (by omega) (Xqp hb (by omega)), Xad, Bool.not_true, Xay, e, Xad]
 obtain ⟨r, er, r1, r2⟩ := Xng (f := Xgb) 64 (fun x => -368640000 ≤ x ∧ x ≤ 368640000) (fun x => -10000000 ≤ x ∧ x ≤ 10000000) (by
  intro i l hi hll hx
  obtain ⟨d, ed, d1, d2⟩ := Xl4 (l.getD i 0 + 32) 64 (by omega) (Or.inr rfl)
  unfold Xgb
  simp only [Int.toNat_natCast]
  rw [syA, rqA, rqA, wkA (e := l.getD i 0 + 32), ed, Xad, rqA, rqA, wkA (e := (i : Int) + 1)]
  exact ⟨d, rfl, by omega, by omega⟩) (by intro s; unfold Xgb; rw [Xav (by simp)]) o h1 (fun x hx => by have := h2 x hx; omega)
 exact ⟨r, (Xip er).trans rfl, r1, r2⟩
theorem Xl7 (p : List Int) (B : Int) (hB : 0 ≤ B) (hl : p.length = 16) (hb : inB B p) : ∃ o, Xd1 p = some o ∧ o.length = 16 ∧ inB B o := by
 unfold Xd1
 rw [rqA]
 obtain ⟨o, e, h1, h2⟩ := Xdz (f := Xdj p) 16 (fun i s => s.length = 16 ∧ inB B s) (by
  intro i s hi ⟨g1, g2⟩
  have ha := Xnw hb (i := i) (by omega)
  unfold Xdj
  simp only
  rw [syA, rqA, rqA, rqA, Xb3 (by omega), Xbp (by omega), wkA (e := (i : Int) / 4), wkA (e := (i : Int) % 4 * 4), wkA (e := (i : Int) % 4 * 4 + (i : Int) / 4), rqA, rqA, wkA (e := (i : Int) + 1), Int.toNat_natCast]
  exact ⟨_, rfl, by rw [List.length_set]; exact g1, Ywp g2 _ ha⟩) (by intro s; unfold Xdj; rw [Xav (by simp)]) (List.replicate (16 : Int).toNat 0) ⟨by simp, Ywo _ hB⟩
 exact ⟨o, (Xip e).trans rfl, h1, h2⟩
theorem Yxp {B a b c d : Int} (h1 : -B ≤ a ∧ a ≤ B) (h2 : -B ≤ b ∧ b ≤ B) (h3 : -B ≤ c ∧ c ≤ B) (h4 : -B ≤ d ∧ d ≤ B) : inB B [a, b, c, d] := fun x hx => by
 simp only [List.mem_cons, List.not_mem_nil, or_false] at hx
 rcases hx with rfl | rfl | rfl | rfl
 ·
  exact h1
 ·
  exact h2
 ·
  exact h3
 ·
  exact h4
theorem Xvq (p : List Int) (B : Int) (hB : 0 ≤ B ∧ B ≤ 1000000000) (hl : p.length = 16) (hb : inB B p) : ∃ o, Xgj p = some o ∧ o.length = 16 ∧ inB (6 * B) o := by
 have hm : maxLen = 9223372036854775807 := rfl
 unfold Xgj
 obtain ⟨o, e, h1, h2⟩ := Xdz (f := Xdk p) 4 (fun i s => s.length = 4 * i ∧ inB (6 * B) s) (by
  intro i s hi ⟨g1, g2⟩
  have a0 := Xnw hb (i := 4 * i) (by omega)
  have a1 := Xnw hb (i := 4 * i + 1) (by omega)
  have a2 := Xnw hb (i := 4 * i + 2) (by omega)
  have a3 := Xnw hb (i := 4 * i + 3) (by omega)
  unfold Xdk
  simp only
  rw [syA, wkA (e := 4 * (i : Int)), wkA (e := 4 * (i : Int) + 1), wkA (e := 4 * (i : Int) + 2), wkA (e := 4 * (i : Int) + 3), rqA, rqA, rqA, rqA, show (4 * (i : Int)).toNat = 4 * i by omega, show (4 * (i : Int) + 1).toNat = 4 * i + 1 by omega, show (4 * (i : Int) + 2).toNat = 4 * i + 2 by omega, show (4 * (i : Int) + 3).toNat = 4 * i + 3 by omega]
  generalize p.getD (4 * i) 0 = a at *
  generalize p.getD (4 * i + 1) 0 = b at *
  generalize p.getD (4 * i + 2) 0 = c at *
  generalize p.getD (4 * i + 3) 0 = d at *
  rw [wkA (e := (i : Int) + 1)]
  have w1 : Xaa .i64 (Xaa .i64 (Xaa .i64 (a + b) + c) + d) = a + b + c + d := by
   rw [wkA (e := a + b), wkA (e := a + b + c), wkA]
  have w2 : Xaa .i64 (Xaa .i64 (Xaa .i64 (Xaa .i64 (2 * a) + b) - c) - Xaa .i64 (2 * d)) = 2 * a + b - c - 2 * d := by
   rw [wkA (e := 2 * a), wkA (e := 2 * d), wkA (e := 2 * a + b), wkA (e := 2 * a + b - c), wkA]
  have w3 : Xaa .i64 (Xaa .i64 (Xaa .i64 (a - b) - c) + d) = a - b - c + d := by
   rw [wkA (e := a - b), wkA (e := a - b - c), wkA]
  have w4 : Xaa .i64 (Xaa .i64 (Xaa .i64 (a - Xaa .i64 (2 * b)) + Xaa .i64 (2 * c)) - d) = a - 2 * b + 2 * c - d := by
   rw [wkA (e := 2 * b), wkA (e := 2 * c), wkA (e := a - 2 * b), wkA (e := a - 2 * b + 2 * c), wkA]
  rw [w1, w2, w3, w4, Xaz (by simp only [List.length_cons, List.length_nil]; omega)]
  exact ⟨_, rfl, by simp; omega, Xmv g2 (Yxp (by omega) (by omega) (by omega) (by omega))⟩) (by intro s; unfold Xdk; rw [Xav (by simp)]) [] ⟨rfl, Xyv _⟩
 exact ⟨o, (Xip e).trans rfl, h1, h2⟩
theorem Xt1 (p : List Int) (B : Int) (hB : 0 ≤ B ∧ B ≤ 1000000000) (hl : p.length = 16) (hb : inB B p) : ∃ o, Xfc p = some o ∧ o.length = 16 ∧ inB (4 * B + 2) o := by
 have hm : maxLen = 9223372036854775807 := rfl
 unfold Xfc
 obtain ⟨o, e, h1, h2⟩ := Xdz (f := Xcp p) 4 (fun i s => s.length = 4 * i ∧ inB (4 * B + 2) s) (by
  intro i s hi ⟨g1, g2⟩
  have a0 := Xnw hb (i := 4 * i) (by omega)
  have a1 := Xnw hb (i := 4 * i + 1) (by omega)
  have a2 := Xnw hb (i := 4 * i + 2) (by omega)
  have a3 := Xnw hb (i := 4 * i + 3) (by omega)
  obtain ⟨f, ef, f1, f2⟩ := Xl4 (p.getD (4 * i + 1) 0) 2 (by omega) (Or.inl rfl)
  obtain ⟨g, eg, g1', g2'⟩ := Xl4 (p.getD (4 * i + 3) 0) 2 (by omega) (Or.inl rfl)
  unfold Xcp
  simp only
  rw [syA, wkA (e := 4 * (i : Int)), wkA (e := 4 * (i : Int) + 1), wkA (e := 4 * (i : Int) + 2), wkA (e := 4 * (i : Int) + 3), rqA, rqA, rqA, rqA, show (4 * (i : Int)).toNat = 4 * i by omega, show (4 * (i : Int) + 1).toNat = 4 * i + 1 by omega, show (4 * (i : Int) + 2).toNat = 4 * i + 2 by omega, show (4 * (i : Int) + 3).toNat = 4 * i + 3 by omega, ef, Xad, eg, Xad]
  generalize p.getD (4 * i) 0 = a at *
  generalize p.getD (4 * i + 1) 0 = b at *
  generalize p.getD (4 * i + 2) 0 = c at *
  generalize p.getD (4 * i + 3) 0 = d at *
  rw [wkA (e := (i : Int) + 1), wkA (e := a + c), wkA (e := a - c), wkA (e := b + g), wkA (e := f - d), wkA (e := a + c + (b + g)), wkA (e := a - c + (f - d)), wkA (e := a - c - (f - d)), wkA (e := a + c - (b + g)), Xaz (by simp only [List.length_cons, List.length_nil]; omega)]
  exact ⟨_, rfl, by simp; omega, Xmv g2 (Yxp (by omega) (by omega) (by omega) (by omega))⟩) (by intro s; unfold Xcp; rw [Xav (by simp)]) [] ⟨rfl, Xyv _⟩
 exact ⟨o, (Xip e).trans rfl, h1, h2⟩
theorem Yfm (p : List Int) (hl : p.length = 16) (hb : inB 255 p) : ∃ o, Xpu p = some o ∧ o.length = 16 ∧ inB 9180 o := by
 unfold Xpu
 obtain ⟨a, ea, a1, a2⟩ := Xvq p 255 (by omega) hl hb
 obtain ⟨b, eb, b1, b2⟩ := Xl7 a (6 * 255) (by omega) a1 a2
 obtain ⟨c, ec, c1, c2⟩ := Xvq b (6 * 255) (by omega) b1 b2
 obtain ⟨d, ed, d1, d2⟩ := Xl7 c (6 * (6 * 255)) (by omega) c1 c2
 rw [Xcl p 16 1000 (by omega) (by omega) (by omega) (Xqp hb (by omega)), Xad, Bool.not_true, Xay, ea, Xad, eb, Xad, ec, Xad, ed, Xad]
 exact ⟨d, rfl, d1, d2⟩
theorem Xtw (p : List Int) (hl : p.length = 16) (hb : inB 10000000 p) : ∃ o, Xgx p = some o ∧ o.length = 16 ∧ inB 10000000 o := by
 unfold Xgx
 obtain ⟨a, ea, a1, a2⟩ := Xt1 p 10000000 (by omega) hl hb
 obtain ⟨b, eb, b1, b2⟩ := Xl7 a _ (by omega) a1 a2
 obtain ⟨c, ec, c1, c2⟩ := Xt1 b _ (by omega) b1 b2
 obtain ⟨d, ed, d1, d2⟩ := Xl7 c _ (by omega) c1 c2
 rw [Xcl p 16 10000000 (by omega) (by omega) (by omega) hb, Xad, Bool.not_true, Xay, ea, Xad, eb, Xad, ec, Xad, ed, Xad]
 obtain ⟨r, er, r1, r2⟩ := Xng (f := Xg7) 16 (fun x => -160000010 ≤ x ∧ x ≤ 160000010) (fun x => -10000000 ≤ x ∧ x ≤ 10000000) (by
  intro i l hi hll hx
  obtain ⟨d, ed, d1, d2⟩ := Xl4 (l.getD i 0 + 32) 64 (by omega) (Or.inr rfl)
  unfold Xg7
  simp only [Int.toNat_natCast]
  rw [syA, rqA, rqA, wkA (e := l.getD i 0 + 32), ed, Xad, rqA, rqA, wkA (e := (i : Int) + 1)]
  exact ⟨d, rfl, by omega, by omega⟩) (by intro s; unfold Xg7; rw [Xav (by simp)]) d d1 (fun x hx => by have := d2 x hx; omega)
 exact ⟨r, (Xip er).trans rfl, r1, r2⟩
theorem Xog (x : Int) (h : -1000000000000 ≤ x ∧ x ≤ 1000000000000) : Xdy x = some (Ye8 x) := by
 unfold Xdy Ye8
 by_cases hx : x < 0
 ·
  rw [Xbo hx, if_pos hx, wkA]; congr 1; omega
 ·
  rw [Xav hx, if_neg hx]
theorem Xsk (w x B : Int) (h : 0 ≤ x ∧ x ≤ B) (hB : B ≤ 1000000000) : ∃ o, Xfr w x = some o ∧ -B ≤ o ∧ o ≤ B := by
 unfold Xfr
 by_cases hx : w < 0
 ·
  rw [Xbo hx, wkA]; exact ⟨_, rfl, by omega, by omega⟩
 ·
  rw [Xav hx]; exact ⟨_, rfl, by omega, by omega⟩
def Zc6 (qp : Int) : Int := Xaa .i64 (1 * 2 ^ min (Xaa .u64 (Xaa .i64 (15 + (Xaa .i64 (qp.tdiv 6))))).toNat (IntKind.bits .i64))
theorem Zc7 : ∀ q : Fin 41, (0 ≤ Xaa .u64 (Xaa .i64 (15 + (Xaa .i64 ((q.val : Int).tdiv 6)))) ∧ 32768 ≤ Zc6 (q.val : Int) ∧ Zc6 (q.val : Int) ≤ 2097152) := by decide +kernel
theorem Xqz (w qp p : Int) (hw : -9180 ≤ w ∧ w ≤ 9180) (h0 : 0 ≤ qp ∧ qp ≤ 40) (hp : 0 ≤ p ∧ p ≤ 15) : ∃ o, Xel w qp p = some o ∧ -5000 ≤ o ∧ o ≤ 5000 := by
 have hs := Zc7 ⟨qp.toNat, by omega⟩
 simp only at hs
 rw [show ((qp.toNat : Nat) : Int) = qp by omega] at hs
 obtain ⟨s1, s2, s3⟩ := hs
 obtain ⟨s, es, q0, q1⟩ := Ymi qp p h0 hp
 unfold Xel
 have en : Xaa .i64 (1 * 2 ^ min (Xaa .u64 (Xaa .i64 (15 + (Xaa .i64 (qp.tdiv 6))))).toNat (IntKind.bits .i64)) = Zc6 qp := rfl
 rw [Xaj, Xad, decide_eq_true (by omega), Xa0, Xaj, Xad, decide_eq_true h0, Xa0, Xaj, Xad, decide_eq_true hp, Bool.not_true, Xad, Xay, rqA, Xaz s1, Xog w (by omega), Xad, es, Xad, rqA, en]
 generalize Zc6 qp = n at *
 have ha : 0 ≤ Ye8 w ∧ Ye8 w ≤ 9180 := by unfold Ye8; split <;> omega
 generalize Ye8 w = a at *
 have hm : 0 ≤ a * s ∧ a * s ≤ 9180 * 13107 := ⟨Int.mul_nonneg ha.1 q0, Int.mul_le_mul ha.2 q1 q0 (by omega)⟩
 rw [rqA, wkA (e := a * s), Xbp (a := n) (by omega), wkA (e := n / 3), wkA (e := a * s + n / 3), Xbp (by omega)]
 have d0 : 0 ≤ (a * s + n / 3) / n := Int.ediv_nonneg (by omega) (by omega)
 have d1 : (a * s + n / 3) / n < 5000 := Int.ediv_lt_of_lt_mul (by omega) (by omega)
 rw [wkA]
 obtain ⟨o, eo, o1, o2⟩ := Xsk w _ 5000 ⟨d0, by omega⟩ (by omega)
 rw [eo, Xad]
 exact ⟨o, rfl, o1, o2⟩
theorem Xqw (w qp : Int) (h0 : 0 ≤ qp ∧ qp ≤ 40) : ∃ o, Xej w qp = some o ∧ -5000 ≤ o ∧ o ≤ 5000 := by
 unfold Xej
 rw [Xaj, Xad]
 by_cases hw : -20000 ≤ w ∧ w ≤ 20000
 ·
  obtain ⟨s, es, q0, q1⟩ := Xxz qp h0
  rw [decide_eq_true hw, Xa0, Xaj, Xad, decide_eq_true h0, Bool.not_true, Xad, Xay, es, Xad, Xog w (by omega), Xad]
  have ha : 0 ≤ Ye8 w ∧ Ye8 w ≤ 20000 := by unfold Ye8; split <;> omega
  generalize Ye8 w = a at *
  rw [rqA, rqA, Xbp (a := s) (by omega), wkA (e := s / 2), wkA (e := a + s / 2), Xbp (by omega)]
  have d0 : 0 ≤ (a + s / 2) / s := Int.ediv_nonneg (by omega) (by omega)
  have d1 : (a + s / 2) / s < 5000 := Int.ediv_lt_of_lt_mul (by omega) (by omega)
  rw [wkA]
  obtain ⟨o, eo, o1, o2⟩ := Xsk w _ 5000 ⟨d0, by omega⟩ (by omega)
  rw [eo, Xad]
  exact ⟨o, rfl, o1, o2⟩
 ·
  rw [decide_eq_false hw, Xay, Xad, Xa0]
  exact ⟨0, rfl, by omega, by omega⟩
theorem Xsh (l qp p : Int) (hl : -5000 ≤ l ∧ l ≤ 5000) (h0 : 0 ≤ qp ∧ qp ≤ 40) (hp : 0 ≤ p ∧ p ≤ 15) : ∃ o, Xfp l qp p = some o ∧ -10000000 ≤ o ∧ o ≤ 10000000 := by
 unfold Xfp
 obtain ⟨s, es, q0, q1⟩ := Yme qp p h0 hp
 rw [Xaj, Xad, decide_eq_true hl, Bool.not_true, Xay, es, Xad]
 have m1 : l * s ≤ 5000 * s := Int.mul_le_mul_of_nonneg_right hl.2 q0
 have m2 : -5000 * s ≤ l * s := Int.mul_le_mul_of_nonneg_right hl.1 q0
 rw [wkA]
 exact ⟨_, rfl, by omega, by omega⟩
theorem Xse (l qp : Int) (hl : -5000 ≤ l ∧ l ≤ 5000) (h0 : 0 ≤ qp ∧ qp ≤ 40) : ∃ o, Xfo l qp = some o ∧ -5760000 ≤ o ∧ o ≤ 5760000 := by
 unfold Xfo
 obtain ⟨s, es, q0, q1⟩ := Xxz qp h0
 rw [Xaj, Xad, decide_eq_true hl, Bool.not_true, Xay, es, Xad]
 have m1 : l * s ≤ 5000 * s := Int.mul_le_mul_of_nonneg_right hl.2 (by omega)
 have m2 : -5000 * s ≤ l * s := Int.mul_le_mul_of_nonneg_right hl.1 (by omega)
 rw [wkA]
 exact ⟨_, rfl, by omega, by omega⟩
theorem Ywu {l : List Int} (h1 : l.length = 64) (h2 : inB 5000 l) : Yiu l = true := by
 unfold Yiu
 rw [Bool.and_eq_true, decide_eq_true_eq, List.all_eq_true]
 exact ⟨h1, fun x hx => by unfold Yvd; rw [decide_eq_true_eq]; exact h2 x hx⟩
theorem Yle {l : List Int} (h : Yiu l = true) : l.length = 64 ∧ inB 5000 l := by
 obtain ⟨h1, h2⟩ := Xwe h
 refine ⟨h1, fun x hx => ?_⟩
 have := List.all_eq_true.1 h2 x hx
 unfold Yvd at this
 rwa [decide_eq_true_eq] at this
theorem Xzx {c : Xfs} (h : Xjc c = true) : 0 ≤ c.Qp ∧ c.Qp ≤ 40 := by
 unfold Xjc at h
 rw [Bool.and_eq_true, decide_eq_true_eq] at h
 exact h.1
theorem Xq0 (p : List Int) (k : Nat) (hk : k < 4) (B : Int) (hl : p.length = 64) (hb : inB B p) : ∃ o, Xem p k = some o ∧ o.length = 16 ∧ inB B o := by
 have hm : maxLen = 9223372036854775807 := rfl
 unfold Xem
 obtain ⟨o, e, h1, h2⟩ := Xdz (f := Xbn p k) 16 (fun i s => s.length = i ∧ inB B s) (by
  intro i s hi ⟨g1, g2⟩
  have ha := Xnw hb (i := (8 * ((k : Int) / 2 * 4 + (i : Int) / 4) + (k : Int) % 2 * 4 + (i : Int) % 4).toNat) (by omega)
  unfold Xbn
  simp only
  rw [syA, rqA, rqA, rqA, rqA, Xbp (a := (k : Int)) (by omega), Xbp (a := (i : Int)) (by omega), Xb3 (a := (k : Int)) (by omega), Xb3 (a := (i : Int)) (by omega), wkA (e := (k : Int) / 2), wkA (e := (k : Int) / 2 * 4), wkA (e := (i : Int) / 4), wkA (e := (k : Int) / 2 * 4 + (i : Int) / 4), wkA (e := 8 * ((k : Int) / 2 * 4 + (i : Int) / 4)), wkA (e := (k : Int) % 2 * 4), wkA (e := 8 * ((k : Int) / 2 * 4 + (i : Int) / 4) + (k : Int) % 2 * 4), wkA (e := 8 * ((k : Int) / 2 * 4 + (i : Int) / 4) + (k : Int) % 2 * 4 + (i : Int) % 4), rqA, Xaz (by simp only [List.length_singleton]; omega), wkA (e := (i : Int) + 1)]
  exact ⟨_, rfl, by simp; omega, Xmv g2 (Ysk ha)⟩) (by intro s; unfold Xbn; rw [Xav (by simp)]) [] ⟨rfl, Xyv _⟩
 exact ⟨o, (Xip e).trans rfl, h1, h2⟩
theorem Xty (p : List Int) (c : Xfs) (hc : Xjc c = true) (hl : p.length = 64) (hb : inB 255 p) : ∃ o, Xch p c = some (o, true) ∧ Yiu o = true := by
 have hm : maxLen = 9223372036854775807 := rfl
 have hq := Xzx hc
 unfold Xch
 rw [Xfl, Xad, hc, Xa0, Xcl p 64 255 (by omega) (by omega) (by omega) hb, Xad, Bool.not_true, Xad, Xay]
 cases hE : c.Exact with
 | true =>
  obtain ⟨o, e, h1, h2⟩ := Xp2 8 (Or.inr rfl) p 255 (by omega) hb
  rw [Xa0, e, Xad]
  exact ⟨o, rfl, Ywu (by omega) (Xqp h2 (by omega))⟩
 | false =>
  rw [Xay]
  cases hL : c.Large with
  | true =>
   obtain ⟨w, ew, w1⟩ := Ybp p hl hb
   obtain ⟨l, el, l1, l2⟩ := Xng (f := Xbv c) 64 (fun _ => True) (fun x => -5000 ≤ x ∧ x ≤ 5000) (by
    intro i l hi hll _
    obtain ⟨d, ed, d1, d2⟩ := Xqw (l.getD i 0) c.Qp hq
    unfold Xbv
    simp only [Int.toNat_natCast]
    rw [syA, rqA, rqA, ed, Xad, rqA, rqA, wkA (e := (i : Int) + 1)]
    exact ⟨d, rfl, d1, d2⟩) (by intro s; unfold Xbv; rw [Xav (by simp)]) w w1 (fun _ _ => trivial)
   obtain ⟨o, e, h1, h2⟩ := Xp2 8 (Or.inr rfl) l 5000 (by omega) l2
   rw [Xa0, ew, Xad, el, Xad, e, Xad]
   exact ⟨o, rfl, Ywu (by omega) h2⟩
  | false =>
   obtain ⟨o, eo, o1, o2⟩ := Xdz (f := Xc3 p c) 4 (fun k s => s.length = 16 * k ∧ inB 5000 s) (by
    intro k s hk ⟨g1, g2⟩
    obtain ⟨a, ea, a1, a2⟩ := Xq0 p k hk 255 hl hb
    obtain ⟨b, eb, b1, b2⟩ := Yfm a a1 a2
    obtain ⟨l, el, l1, l2⟩ := Xng (f := Xbh c) 16 (fun x => -9180 ≤ x ∧ x ≤ 9180) (fun x => -5000 ≤ x ∧ x ≤ 5000) (by
     intro i l hi hll hx
     obtain ⟨d, ed, d1, d2⟩ := Xqz (l.getD i 0) c.Qp i hx hq (by omega)
     unfold Xbh
     simp only [Int.toNat_natCast]
     rw [syA, rqA, rqA, ed, Xad, rqA, rqA, wkA (e := (i : Int) + 1)]
     exact ⟨d, rfl, d1, d2⟩) (by intro s; unfold Xbh; rw [Xav (by simp)]) b b1 b2
    obtain ⟨r, er, r1, r2⟩ := Xp2 4 (Or.inl rfl) l 5000 (by omega) l2
    unfold Xc3
    simp only
    rw [syA, ea, Xad, eb, Xad, el, Xad, er, Xad]
    simp only
    rw [rqA, wkA (e := (k : Int) + 1)]
    exact ⟨_, rfl, by rw [List.length_append]; omega, Xmv g2 r2⟩) (by intro s; unfold Xc3; rw [Xav (by simp)]) [] ⟨rfl, Xyv _⟩
   rw [Xay, eo, Xad]
   exact ⟨o, rfl, Ywu (by omega) o2⟩
theorem Xqy (p : List Int) (c : Xfs) (hc : Xjc c = true) (hp : Yiu p = true) : ∃ o, Xdg p c = some (o, true) ∧ o.length = 64 ∧ inB 10000000 o := by
 have hm : maxLen = 9223372036854775807 := rfl
 have hq := Xzx hc
 obtain ⟨hl, hb⟩ := Yle hp
 unfold Xdg
 rw [Xfl, Xad, hc, Xa0, Xcl p 64 5000 (by omega) (by omega) (by omega) hb, Xad, Bool.not_true, Xad, Xay]
 cases hE : c.Exact with
 | true =>
  obtain ⟨o, e, h1, h2⟩ := Xgd 8 (Or.inr rfl) p 5000 (by omega) (by omega) hb
  rw [Xa0, e, Xad]
  exact ⟨o, rfl, by omega, Xqp h2 (by omega)⟩
 | false =>
  rw [Xay]
  cases hL : c.Large with
  | true =>
   obtain ⟨w, ew, w1, w2⟩ := Xgd 8 (Or.inr rfl) p 5000 (by omega) (by omega) hb
   obtain ⟨l, el, l1, l2⟩ := Xng (f := Xbc c) 64 (fun x => -5000 ≤ x ∧ x ≤ 5000) (fun x => -5760000 ≤ x ∧ x ≤ 5760000) (by
    intro i l hi hll hx
    obtain ⟨d, ed, d1, d2⟩ := Xse (l.getD i 0) c.Qp hx hq
    unfold Xbc
    simp only [Int.toNat_natCast]
    rw [syA, rqA, rqA, ed, Xad, rqA, rqA, wkA (e := (i : Int) + 1)]
    exact ⟨d, rfl, d1, d2⟩) (by intro s; unfold Xbc; rw [Xav (by simp)]) w (by omega) w2
   obtain ⟨o, e, h1, h2⟩ := Yec l l1 l2
   rw [Xa0, ew, Xad, el, Xad, e, Xad]
   exact ⟨o, rfl, h1, h2⟩
  | false =>
   obtain ⟨o, eo, o1, o2⟩ := Xdz (f := Xb5 p c) 4 (fun k s => s.length = 64 ∧ inB 10000000 s) (by
    intro k s hk ⟨g1, g2⟩
    have hcut : ((p.drop (16 * k)).take 16).length = 16 := by rw [List.length_take, List.length_drop]; omega
    obtain ⟨a, ea, a1, a2⟩ := Xgd 4 (Or.inl rfl) ((p.drop (16 * k)).take 16) 5000 (by omega) (by omega) (Yxq (Yxo hb _) _)
    obtain ⟨l, el, l1, l2⟩ := Xng (f := Xbb c) 16 (fun x => -5000 ≤ x ∧ x ≤ 5000) (fun x => -10000000 ≤ x ∧ x ≤ 10000000) (by
     intro i l hi hll hx
     obtain ⟨d, ed, d1, d2⟩ := Xsh (l.getD i 0) c.Qp i hx hq (by omega)
     unfold Xbb
     simp only [Int.toNat_natCast]
     rw [syA, rqA, rqA, ed, Xad, rqA, rqA, wkA (e := (i : Int) + 1)]
     exact ⟨d, rfl, d1, d2⟩) (by intro s; unfold Xbb; rw [Xav (by simp)]) a (by omega) a2
    obtain ⟨b, eb, b1, b2⟩ := Xtw l l1 l2
    obtain ⟨r, er, r1, r2⟩ := Xdz (f := Xbe ((k : Int), s) b) 16 (fun i s => s.length = 64 ∧ inB 10000000 s) (by
     intro i s hi ⟨g1, g2⟩
     have ha := Xnw b2 (i := i) (by omega)
     unfold Xbe
     simp only
     rw [syA, rqA, rqA, rqA, rqA, rqA, rqA, Xbp (a := (k : Int)) (by omega), Xbp (a := (i : Int)) (by omega), Xb3 (a := (k : Int)) (by omega), Xb3 (a := (i : Int)) (by omega), wkA (e := (k : Int) / 2), wkA (e := (k : Int) / 2 * 4), wkA (e := (i : Int) / 4), wkA (e := (k : Int) / 2 * 4 + (i : Int) / 4), wkA (e := 8 * ((k : Int) / 2 * 4 + (i : Int) / 4)), wkA (e := (k : Int) % 2 * 4), wkA (e := 8 * ((k : Int) / 2 * 4 + (i : Int) / 4) + (k : Int) % 2 * 4), wkA (e := 8 * ((k : Int) / 2 * 4 + (i : Int) / 4) + (k : Int) % 2 * 4 + (i : Int) % 4), rqA, rqA, wkA (e := (i : Int) + 1), Int.toNat_natCast]
     exact ⟨_, rfl, by rw [List.length_set]; exact g1, Ywp g2 _ ha⟩) (by intro s; unfold Xbe; rw [Xav (by simp)]) s ⟨g1, g2⟩
    unfold Xb5
    simp only
    rw [syA, wkA (e := 16 * (k : Int)), wkA (e := 16 * (k : Int) + 16), rqA, show (16 * (k : Int)).toNat = 16 * k by omega, show (16 * (k : Int) + 16).toNat - 16 * k = 16 by omega, ea, Xad, el, Xad, eb, Xad, er, Xad, wkA (e := (k : Int) + 1)]
    exact ⟨_, rfl, r1, r2⟩) (by intro s; unfold Xb5; rw [Xav (by simp)]) (List.replicate (64 : Int).toNat 0) ⟨by simp, Ywo _ (by omega)⟩
   rw [Xay, rqA, eo, Xad]
   exact ⟨o, rfl, o1, o2⟩
theorem Xg9 (l : List Int) (h : Xbq l = true) : Xd3 l = some true := by
 obtain ⟨h1, h2⟩ := Xbm h
 unfold Xd3
 rw [Xba (by simp only [bne_eq_false_iff_eq]; omega), Xsd l.length (f := Xdl l) (by
  intro i hi
  have := h2 i (by omega)
  unfold Xdl
  rw [syA, rqA, Xaj, Xad, Int.toNat_natCast, decide_eq_true this, Bool.not_true, Xay, wkA]
  rfl) (by unfold Xdl; rw [snA]), Xad]
theorem Yug {l : List Int} (h1 : l.length = 64) (h2 : ∀ x ∈ l, 0 ≤ x ∧ x ≤ 255) : Xbq l = true := by
 unfold Xbq
 rw [Bool.and_eq_true, decide_eq_true_eq, List.all_eq_true]
 exact ⟨h1, fun x hx => by unfold Ywf; rw [decide_eq_true_eq]; exact h2 x hx⟩
theorem Xxp (g b : List Int) (hg : Xbq g = true) (hl : b.length = 64) (hb : inB 10000000 b) : ∃ o, Xh7 g b = some o ∧ Xbq o = true := by
 have hm : maxLen = 9223372036854775807 := rfl
 obtain ⟨g1, g2⟩ := Xbm hg
 unfold Xh7
 rw [Xg9 g hg, Xad, Xa0, Xcl b 64 10000000 (by omega) (by omega) (by omega) hb, Xad, Bool.not_true, Xad, Xay]
 obtain ⟨o, e, h1, h2⟩ := Xdz (f := Xfn g b) 64 (fun i s => s.length = i ∧ ∀ x ∈ s, 0 ≤ x ∧ x ≤ 255) (by
  intro i s hi ⟨k1, k2⟩
  have ha := Xnw hb (i := i) (by omega)
  have hd := g2 i hi
  have br := Xfv (n := g.getD i 0 + b.getD i 0) (a := 0) (b := 255) (by omega)
  unfold Xfn
  simp only [Int.toNat_natCast]
  rw [syA, rqA, rqA, wkA (e := g.getD i 0 + b.getD i 0), Xdd, Xad, Xaz (by simp only [List.length_singleton]; omega), wkA (e := (i : Int) + 1)]
  refine ⟨_, rfl, by simp; omega, fun x hx => ?_⟩
  rcases List.mem_append.1 hx with hx | hx
  ·
   exact k2 x hx
  ·
   rw [List.mem_singleton.1 hx]; exact br) (by intro s; unfold Xfn; rw [Xav (by simp)]) [] ⟨rfl, fun x hx => by simp at hx⟩
 exact ⟨o, (Xip e).trans rfl, Yug h1 h2⟩
def Xug (e : Xim) : Prop := (e.Above.length = 0 ∨ e.Above.length = 8) ∧ (e.Left.length = 0 ∨ e.Left.length = 8) ∧ (∀ x ∈ e.Above, 0 ≤ x ∧ x ≤ 255) ∧ (∀ x ∈ e.Left, 0 ≤ x ∧ x ≤ 255) ∧ -1 ≤ e.Corner ∧ e.Corner ≤ 255
theorem Xt2 {p : Pic} (ok : Xdq p = true) (x y : Int) : Xhi p x y 8 8 = some (Xdm p x y) := by
 obtain ⟨k1, k2, k3⟩ := Xbj ok
 unfold Xhi Xdm
 rw [Xci, Xad, ok, Xa0, Xaj, Xad, Xaj, Xad, wkA (e := p.Wide - 8), wkA (e := p.High - 8), Xaj, Xad, Xaj, Xad]
 simp only [Xdb, Xad]
 congr 1
 rw [Bool.eq_iff_iff]
 simp only [Bool.and_eq_true, decide_eq_true_eq]
 omega
theorem Xha {p : Pic} (ok : Xdq p = true) {x y : Int} (hx : x.tmod 8 = 0) (hy : y.tmod 8 = 0) (h : Xdm p x y = true) : Xgl p x y = some true := by
 unfold Xgl
 rw [rqA, hx, rqA, hy, Xt2 ok, Xad, h]
 rfl
end Go.Proofs.YtnhflbeahbcklabGreat.A.Pure
