/- The pure statement of the law FnExactAdmitStep: over numbers, texts and lists alone, what the law computes is true. Conditions: the sizes of what a machine holds. -/
import Derived.Test.YtnhflbeahbcklabGreatDFnExactAdmitStep
namespace Go.Proofs.YtnhflbeahbcklabGreat.A.Pure
open Go Go.Proofs Go.Proofs.YtnhflbeahbcklabGreatAL Go.RowKit
set_option linter.unusedVariables false
set_option linter.unusedSimpArgs false
set_option maxHeartbeats 1000000
noncomputable section
def Xwa (v6 : (Int × Int)) : Option (Lp (Int × Int) Int) :=
 sel (decide (v6.2 > 0)) (
 bnd (
 req ((2 : Int) ≠ 0) <|
 sel ((v6.2.tmod 2) == 1) (
 some (Xah .i64 (0 - v6.1))) (
 some v6.1)) fun v10 =>
 req ((2 : Int) ≠ 0) <|
 some (.go (v10, Xah .i64 (v6.2.tdiv 2)))) (
 some (.done v6.1))
def Xqb (p0 : Seq) : Option Seq :=
 req ((([] : List Int).length + p0.Cols.length) * 8 ≤ 140737488355328 ∧ ([] : List Int).length + p0.Cols.length ≤ maxLen) <|
 req ((([] : List Int).length + p0.Rows.length) * 8 ≤ 140737488355328 ∧ ([] : List Int).length + p0.Rows.length ≤ maxLen) <|
 some (⟨p0.Level, p0.Bits, (([] : List Int) ++ p0.Cols), (([] : List Int) ++ p0.Rows)⟩ : Seq)
def Xm9 (p0 : Seq) (p1 : Int) : Option (Yer × Bool) :=
 bnd (Xcy p0) fun q1 =>
 bnd (Xaq p1 0 (Xah .i64 (q1 - 1))) fun q2 =>
 sel (!q2) (
 some ((⟨0, 0, 0, 0⟩ : Yer), false)) (
 req ((p0.Cols.length : Int) ≠ 0) <|
 req ((p0.Cols.length : Int) ≠ 0) <|
 req (0 ≤ (0 : Int) ∧ (0 : Int) ≤ (p1.tmod (p0.Cols.length : Int)) ∧ (p1.tmod (p0.Cols.length : Int)) ≤ (p0.Cols.length : Int)) <|
 bnd (Xel ((p0.Cols.drop (0 : Int).toNat).take ((p1.tmod (p0.Cols.length : Int)).toNat - (0 : Int).toNat))) fun q3 =>
 req (0 ≤ (0 : Int) ∧ (0 : Int) ≤ (Xah .i64 (p1.tdiv (p0.Cols.length : Int))) ∧ (Xah .i64 (p1.tdiv (p0.Cols.length : Int))) ≤ (p0.Rows.length : Int)) <|
 bnd (Xel ((p0.Rows.drop (0 : Int).toNat).take ((Xah .i64 (p1.tdiv (p0.Cols.length : Int))).toNat - (0 : Int).toNat))) fun q4 =>
 req (0 ≤ (p1.tmod (p0.Cols.length : Int)) ∧ (p1.tmod (p0.Cols.length : Int)) < p0.Cols.length) <|
 req (0 ≤ (Xah .i64 (p1.tdiv (p0.Cols.length : Int))) ∧ (Xah .i64 (p1.tdiv (p0.Cols.length : Int))) < p0.Rows.length) <|
 some ((⟨Xah .i64 (8 * q3), Xah .i64 (8 * q4), Xah .i64 (8 * (p0.Cols.getD (p1.tmod (p0.Cols.length : Int)).toNat 0)), Xah .i64 (8 * (p0.Rows.getD (Xah .i64 (p1.tdiv (p0.Cols.length : Int))).toNat 0))⟩ : Yer), true))
end
theorem Xab {α β : Type} (a : α) (f : α → Option β) : bnd (some a) f = f a := rfl
theorem Xh1 {α β : Type} {x : Option α} {a : α} {f : α → Option β} (h : x = some a) : bnd x f = f a := by subst h; rfl
theorem Xaz {β : Type} (x y : β) : sel true x y = x := rfl
theorem Xax {β : Type} (x y : β) : sel false x y = y := rfl
theorem Ycm {β : Type} (b : Bool) (x y : β) : sel (!b) x y = sel b y x := by cases b <;> rfl
theorem Xg6 (b x : Bool) : sel b (some x) (some false) = some (b && x) := by cases b <;> rfl
theorem Xwy (b x : Bool) : sel b (some true) (some x) = some (b || x) := by cases b <;> rfl
theorem Xx5 (b x : Bool) : sel b (some x) (some true) = some (!b || x) := by cases b <;> rfl
theorem Yg0 {β : Type} (b : Bool) (x y : β) : sel b x y = if b = true then x else y := by cases b <;> rfl
theorem Xzq {β : Type} (p : Prop) [Decidable p] (x y : β) : sel (decide p) x y = if p then x else y := by
 by_cases h : p <;> simp [h, sel]
theorem Xda {β : Type} {b : Bool} {x y : β} (h : b = true) : sel b x y = x := by subst h; rfl
theorem Xbq {β : Type} {b : Bool} {x y : β} (h : b = false) : sel b x y = y := by subst h; rfl
theorem Xaj {β : Type} {p : Prop} [Decidable p] {x y : β} (h : p) : sel (decide p) x y = x := by simp [h, sel]
theorem Xat {β : Type} {p : Prop} [Decidable p] {x y : β} (h : ¬ p) : sel (decide p) x y = y := by simp [h, sel]
theorem Xam {β : Type} {c : Prop} [Decidable c] {k : Option β} (h : c) : req c k = k := if_pos h
theorem wk {e : Int} (h1 : -9223372036854775808 ≤ e) (h2 : e ≤ 9223372036854775807) : Xah .i64 e = e := by
 show wrap64 e = e
 unfold wrap64; omega
theorem w8 {e : Int} (h1 : 0 ≤ e) (h2 : e ≤ 255) : Xah .u8 e = e := by
 show IntKind.wrap .u8 e = e
 simp [IntKind.wrap, IntKind.signed, IntKind.bits]; omega
theorem Xlf {a b : Int} (h : 0 ≤ a) : Int.tmod a b = a % b := Int.tmod_eq_emod_of_nonneg h
theorem Xic {a b : Int} (h : 0 ≤ a) : Int.tdiv a b = a / b := Int.tdiv_eq_ediv_of_nonneg h
theorem Xjn {P : Nat → Prop} (n : Nat) (h0 : P n) (hs : ∀ i, i < n → P (i + 1) → P i) : ∀ i, i ≤ n → P i := by
 intro i hi
 obtain ⟨k, rfl⟩ : ∃ k, n = i + k := ⟨n - i, by omega⟩
 clear hi
 induction k generalizing i with
 | zero => exact h0
 | succ k ih =>
  refine hs i (by omega) ?_
  exact ih (i + 1) (by rw [show i + 1 + k = i + (k + 1) by omega]; exact h0) (fun j hj => hs j (by omega))
theorem lgo {V O : Type} {f : V → Option (Lp V O)} {x y : V} {r : Option O} (h : f x = some (.go y)) (k : loop f y = r) : loop f x = r := by rw [Xij h]; exact k
theorem Xbk {V O : Type} {f : V → Option (Lp V O)} {x : V} {o : O} (h : f x = some (.done o)) : loop f x = some o := Xbw h
theorem Yfa {V O : Type} {f : V → Option (Lp V O)} (I : V → Prop) (m : V → Nat) (Q : V → O → Prop) (h : ∀ v, I v → (∃ o, f v = some (.done o) ∧ Q v o) ∨ ∃ v', f v = some (.go v') ∧ I v' ∧ m v' < m v ∧ ∀ o, Q v' o → Q v o) : ∀ v, I v → ∃ o, loop f v = some o ∧ Q v o := by
 intro v
 generalize hn : m v = n
 induction n using Nat.strongRecOn generalizing v with
 | _ n ih =>
  intro hv
  rcases h v hv with ⟨o, h1, h2⟩ | ⟨v', h1, h2, h3, h4⟩
  ·
   exact ⟨o, Xbw h1, h2⟩
  ·
   obtain ⟨o, h5, h6⟩ := ih (m v') (by omega) v' rfl h2
   exact ⟨o, by rw [Xij h1]; exact h5, h4 o h6⟩
theorem Xie {α : Type} (l : List α) (i : Nat) (h : i < l.length) (d : α) : l.getD i d = l[i] := by
 simp [List.getD_eq_getElem?_getD, List.getElem?_eq_getElem h]
theorem Xal (a b c : Int) : Xaq a b c = some (decide (b ≤ a ∧ a ≤ c)) := by
 unfold Xaq
 by_cases h : b ≤ a <;> simp [bnd, sel, h]
theorem Xa7 (a b c : Int) : Xa9 a b c = some (decide (b ≤ a ∧ a ≤ c)) := by
 unfold Xa9
 by_cases h : b ≤ a <;> simp [bnd, sel, h]
theorem Xx6 {α : Type} (a : List α) (x y : α) (b : List α) : (a ++ x :: b).set a.length y = a ++ y :: b := by
 induction a with
 | nil => rfl
 | cons z a ih => simp only [List.cons_append, List.length_cons, List.set_cons_succ, ih]
theorem Xjp {α : Type} (a : List α) (x d : α) (b : List α) : (a ++ x :: b).getD a.length d = x := by
 induction a with
 | nil => rfl
 | cons z a ih => simp
theorem Xsj {α β : Type} (l : List α) (g : α → β) (d : α) (e : β) {f : (Int × List β) → Option (Lp (Int × List β) (List β))}
  (h : ∀ (i : Nat) (o : List β), i < l.length → o.length = l.length → f ((i : Int), o) = some (.go (((i + 1 : Nat) : Int), o.set i (g (l.getD i d))))) (h0 : ∀ o, f ((l.length : Int), o) = some (.done o)) : loop f (0, List.replicate l.length e) = some (l.map g) := by
 have key : ∀ (r a : List α), l = a ++ r → loop f ((a.length : Int), a.map g ++ List.replicate r.length e) = some (l.map g) := by
  intro r
  induction r with
  | nil =>
   intro a ha
   rw [List.append_nil] at ha
   subst ha
   rw [Xbw (h0 _)]; simp
  | cons x r ih =>
   intro a ha
   have hlen : a.length < l.length := by rw [ha]; simp
   rw [Xij (h a.length _ hlen (by rw [ha]; simp))]
   have e1 : l.getD a.length d = x := by rw [ha]; exact Xjp a x d r
   have e2 : (a.map g ++ List.replicate (x :: r).length e).set a.length (g x) = (a ++ [x]).map g ++ List.replicate r.length e := by
    have := Xx6 (a.map g) e (g x) (List.replicate r.length e)
    rw [List.length_map] at this
    rw [List.length_cons, List.replicate_succ, this]
    simp
   rw [e1, e2]
   have := ih (a ++ [x]) (by rw [ha]; simp)
   rw [List.length_append, List.length_singleton] at this
   exact this
 exact key l [] rfl
theorem Xt6 {f : Int → Option (Lp Int (Ou Unit Bool))} (n : Nat) (h : ∀ i : Nat, i < n → f i = some (.go ((i + 1 : Nat) : Int))) (h0 : f n = some (.done (.out ()))) : loop f 0 = some (.out ()) :=
 Xjn (P := fun i => loop f (i : Int) = some (.out ())) n (Xbw h0) (fun i hi ih => by rw [Xij (h i hi)]; exact ih) 0 (by omega)
theorem Xoi (n : Int) : (strOfNums [n]).size = 1 := rfl
theorem Xra (k : Int) (h0 : 0 < k) (h1 : k ≤ 1000000000000) : ∃ s, Xdj k = some s := by
 unfold Xdj
 rw [Xat (by omega)]
 obtain ⟨o, h, h2⟩ := Yfa (f := Xe8) (fun v => 0 ≤ v.1 ∧ v.1 + v.2.size ≤ 1000000000000) (fun v => v.1.toNat) (fun _ o => o.size ≤ 1000000000000) (by
  intro ⟨n, s⟩ ⟨a, b⟩
  unfold Xe8
  simp only at a b ⊢
  by_cases h : n > 0
  ·
   rw [Xaj h, Xam (by decide), Xoi, Xam (by omega), Xam (by decide), Xic a]
   refine .inr ⟨_, rfl, ?_, ?_, fun _ h => h⟩
   ·
    simp only [ByteArray.size_append, Xoi]
    rw [wk (by omega) (by omega)]; omega
   ·
    simp only
    rw [wk (by omega) (by omega)]; omega
  ·
   rw [Xat h]
   exact .inl ⟨_, rfl, by omega⟩) (k, ⟨#[]⟩) ⟨by simp only; omega, by simp only [show (⟨#[]⟩ : ByteArray).size = 0 from rfl]; omega⟩
 rw [h, Xab, Xam (by simp only [show (⟨#[109]⟩ : ByteArray).size = 1 from rfl]; omega)]
 exact ⟨_, rfl⟩
noncomputable def mT (k : Int) : ByteArray := (Xdj k).getD ⟨#[]⟩
theorem Xq9 (k : Int) (h0 : 0 < k) (h1 : k ≤ 1000000000000) : Xdj k = some (mT k) := by
 obtain ⟨s, h⟩ := Xra k h0 h1
 unfold mT; rw [h]; rfl
def Xz9 (n a b : Int) : Int := if b < a ∨ n < a then a else if n > b then b else n
def cnt (n : Int) : Bool := decide (0 ≤ n ∧ n ≤ 1000000000)
theorem Xke (n : Int) : Xet n = some (cnt n) := by
 unfold Xet cnt
 rw [Xa7, Xab]
def Ygq (n : Int) : Int := if n + 1 < 1000000000 then n + 1 else 1000000000
theorem Xkq (n : Int) (h : cnt n = true) : Xff n = some (Ygq n) := by
 have h' : 0 ≤ n ∧ n ≤ 1000000000 := by simpa [cnt] using h
 unfold Xff Ygq
 rw [wk (by omega) (by omega)]
 congr 1
 split <;> split <;> omega
theorem Xuc (n a b : Int) : Xgy n a b = some (Xz9 n a b) := by
 unfold Xgy Xz9
 rw [Xwy, Xab]
 by_cases h : b < a ∨ n < a
 ·
  rw [if_pos h, Xda (by simpa using h)]
 ·
  rw [if_neg h, Xbq (by simp; omega), Xzq]; split <;> rfl
theorem Xk5 (n : Int) (h : cnt n = true) : Xef n = some (Ygq n) := by
 have h' : 0 ≤ n ∧ n ≤ 1000000000 := by simpa [cnt] using h
 unfold Xef Ygq
 rw [wk (by omega) (by omega), Xuc, Xab]
 unfold Xz9
 congr 1
 repeat' split
 all_goals omega
def Xe3 (n : Int) : Bool := decide (1 ≤ n ∧ n ≤ 8)
def Xhj : List Int → Int
 | [] => 0
 | x :: r => x + Xhj r
def Xd9 (l : List Int) : Bool := decide (1 ≤ l.length ∧ l.length ≤ 4) && l.all Xe3
def Xpy (l : List Int) : Int := if Xd9 l = true then Xhj l else 0
theorem Xjt : ∀ {l : List Int}, l.all Xe3 = true → (l.length : Int) ≤ Xhj l ∧ Xhj l ≤ 8 * l.length
 | [], _ => by simp [Xhj]
 | x :: r, h => by
  rw [List.all_cons, Bool.and_eq_true] at h
  have := Xjt h.2
  have hx := h.1
  unfold Xe3 at hx
  simp only [decide_eq_true_eq] at hx
  rw [Xhj, List.length_cons]
  omega
theorem Xqc (l : List Int) : 0 ≤ Xpy l ∧ Xpy l ≤ 32 := by
 unfold Xpy
 split
 ·
  rename_i h
  unfold Xd9 at h
  rw [Bool.and_eq_true, decide_eq_true_eq] at h
  have := Xjt h.2
  omega
 ·
  omega
theorem Xl7 (l : List Int) : Xgg l = some (Xpy l) := by
 unfold Xgg Xpy Xd9
 rw [Xwy, Xab]
 by_cases h : 1 ≤ l.length ∧ l.length ≤ 4
 ·
  rw [Xbq (by simp; omega), decide_eq_true h, Bool.true_and]
  have key : ∀ (r a : List Int) (t : Int), l = a ++ r → 0 ≤ t → t ≤ 8 * a.length → loop (Xd2 l) (t, (a.length : Int)) = some (if r.all Xe3 = true then .out (t + Xhj r) else .ret 0) := by
   intro r
   induction r with
   | nil =>
    intro a t ha h0 h1
    rw [List.append_nil] at ha
    refine Xbk ?_
    unfold Xd2
    simp only
    rw [Xat (by rw [ha]; omega)]
    simp [Xhj]
   | cons x r ih =>
    intro a t ha h0 h1
    have hlen : a.length < l.length := by rw [ha]; simp
    have hx : l.getD a.length 0 = x := by rw [ha]; exact Xjp a x _ r
    have hstep : Xd2 l (t, (a.length : Int)) = sel (Xe3 x) (some (.go (Xah .i64 (t + x), ((a.length + 1 : Nat) : Int)))) (some (.done (.ret 0))) := by
     unfold Xd2
     simp only [Int.toNat_natCast, hx]
     rw [Xaj (by omega), Xam (by omega), Xa7, Xab, Ycm, Xam (by omega), wk (e := (a.length : Int) + 1) (by omega) (by omega)]
     rfl
    cases e : Xe3 x with
    | true =>
     rw [e] at hstep
     have hx2 := e
     unfold Xe3 at hx2
     simp only [decide_eq_true_eq] at hx2
     rw [wk (by omega) (by omega), Xaz] at hstep
     have := ih (a ++ [x]) (t + x) (by rw [ha]; simp) (by omega) (by simp; omega)
     rw [List.length_append, List.length_singleton] at this
     rw [Xij hstep, this, List.all_cons, e, Bool.true_and, Xhj, Int.add_assoc]
    | false =>
     rw [e, Xax] at hstep
     rw [Xbw hstep, List.all_cons, e, Bool.false_and]; rfl
  have := key l [] 0 rfl (by omega) (by simp)
  simp only [List.length_nil, Int.zero_add] at this
  rw [show (((0 : Int), (0 : Int))) = (0, ((0 : Nat) : Int)) from rfl, this, Xab]
  cases l.all Xe3 <;> rfl
 ·
  rw [Xda (by simp; omega), decide_eq_false h, Bool.false_and]; rfl
theorem Xnj (l : List Int) (h : Xd9 l = true) : Xel l = some (Xhj l) := by
 unfold Xd9 at h
 rw [Bool.and_eq_true, decide_eq_true_eq] at h
 unfold Xel
 have key : ∀ (r a : List Int) (t : Int), l = a ++ r → 0 ≤ t → t ≤ 8 * a.length → loop (Xcz l) (t, (a.length : Int)) = some (t + Xhj r) := by
  intro r
  induction r with
  | nil =>
   intro a t ha h0 h1
   rw [List.append_nil] at ha
   refine Xbk ?_
   unfold Xcz
   simp only
   rw [Xat (by rw [ha]; omega)]
   simp [Xhj]
  | cons x r ih =>
   intro a t ha h0 h1
   have hlen : a.length < l.length := by rw [ha]; simp
   have hx : l.getD a.length 0 = x := by rw [ha]; exact Xjp a x _ r
   have e : Xe3 x = true := List.all_eq_true.1 h.2 x (by rw [ha]; simp)
   unfold Xe3 at e
   simp only [decide_eq_true_eq] at e
   have := ih (a ++ [x]) (t + x) (by rw [ha]; simp) (by omega) (by simp; omega)
   rw [List.length_append, List.length_singleton] at this
   rw [Xhj, ← Int.add_assoc, ← this]
   refine Xij ?_
   unfold Xcz
   simp only [Int.toNat_natCast, hx]
   rw [Xaj (by omega), Xam (by omega), wk (e := (a.length : Int) + 1) (by omega) (by omega), wk (by omega) (by omega)]
   rfl
 have := key l [] 0 rfl (by omega) (by simp)
 simp only [List.length_nil, Int.zero_add] at this
 rw [show (((0 : Int), (0 : Int))) = (0, ((0 : Nat) : Int)) from rfl, this, Xab]
def Xeu (s : Seq) : Int := Xpy s.Cols * Xpy s.Rows
theorem Xma (s : Seq) : 0 ≤ Xeu s ∧ Xeu s ≤ 1024 := by
 unfold Xeu
 have h1 := Xqc s.Cols
 have h2 := Xqc s.Rows
 refine ⟨Int.mul_nonneg h1.1 h2.1, ?_⟩
 calc Xpy s.Cols * Xpy s.Rows ≤ 32 * Xpy s.Rows := Int.mul_le_mul_of_nonneg_right h1.2 h2.1
  _ ≤ 1024 := by omega
theorem Xpq (s : Seq) : Xe4 s = some (Xeu s) := by
 have h := Xma s
 unfold Xe4
 rw [Xl7, Xab, Xl7, Xab, wk (by show _ ≤ Xeu s; omega) (by show Xeu s ≤ _; omega)]
 rfl
theorem Ycs (s : Seq) (n : Nat) (hn : n = 0 ∨ n = 1) (l : List Int) (hl : ([s.Cols, s.Rows]).getD n Xjm = l) (h4 : l.length ≤ 4) : loop (Xbu s (n : Int)) 0 = some (if l.all Xe3 = true then .out () else .ret 0) := by
 have key : ∀ (r a : List Int), l = a ++ r → loop (Xbu s (n : Int)) (a.length : Int) = some (if r.all Xe3 = true then .out () else .ret 0) := by
  intro r
  induction r with
  | nil =>
   intro a ha
   rw [List.append_nil] at ha
   refine Xbk ?_
   unfold Xbu
   rw [Int.toNat_natCast, hl, Xat (by rw [ha]; omega)]; rfl
  | cons x r ih =>
   intro a ha
   have hlen : a.length < l.length := by rw [ha]; simp
   have hx : l.getD a.length 0 = x := by rw [ha]; exact Xjp a x _ r
   have hstep : Xbu s (n : Int) (a.length : Int) = sel (Xe3 x) (some (.go ((a.length + 1 : Nat) : Int))) (some (.done (.ret 0))) := by
    unfold Xbu
    simp only [Int.toNat_natCast, hl, hx]
    rw [Xaj (by omega), Xam (by omega), Xal, Xab, Ycm, wk (by omega) (by omega)]
    rfl
   cases e : Xe3 x with
   | true =>
    rw [e, Xaz] at hstep
    have := ih (a ++ [x]) (by rw [ha]; simp)
    rw [List.length_append, List.length_singleton] at this
    rw [Xij hstep, this, List.all_cons, e, Bool.true_and]
   | false => rw [e, Xax] at hstep; rw [Xbw hstep, List.all_cons, e, Bool.false_and]; rfl
 exact key l [] rfl
theorem Xiw (s : Seq) (h1 : s.Cols.length ≤ maxLen) (h2 : s.Rows.length ≤ maxLen) : Xch s = some (Xeu s) := by
 have h := Xma s
 unfold Xch
 have step : ∀ (n : Nat) (l : List Int), n = 0 ∨ n = 1 → ([s.Cols, s.Rows]).getD n Xjm = l → Xb9 s (n : Int) = sel (Xd9 l) (some (.go ((n + 1 : Nat) : Int))) (some (.done (.ret 0))) := by
  intro n l hn hl
  unfold Xb9 Xd9
  rw [Int.toNat_natCast, hl]
  simp only [List.length_cons, List.length_nil]
  rw [Xaj (by omega), Xam (by omega), Xam (by omega), Xal, Xab, Ycm]
  by_cases h4 : 1 ≤ l.length ∧ l.length ≤ 4
  ·
   rw [Xaj (by omega), Ycs s n hn l hl h4.2, Xab, decide_eq_true h4, Bool.true_and, wk (by omega) (by omega)]
   cases l.all Xe3 <;> rfl
  ·
   rw [Xat (by omega), decide_eq_false h4, Bool.false_and, Xax]
 have s0 := step 0 s.Cols (.inl rfl) rfl
 have s1 := step 1 s.Rows (.inr rfl) rfl
 have s2 : Xb9 s ((2 : Nat) : Int) = some (.done (.out ())) := by unfold Xb9; rw [Xat (by simp)]
 rw [show (0 : Int) = ((0 : Nat) : Int) from rfl]
 unfold Xeu at h ⊢
 unfold Xpy at h ⊢
 cases e0 : Xd9 s.Cols with
 | false => rw [e0, Xax] at s0; rw [Xbw s0, Xab]; simp
 | true =>
  rw [e0, Xaz] at s0
  rw [Xij s0]
  cases e1 : Xd9 s.Rows with
  | false => rw [e1, Xax] at s1; rw [Xbw s1, Xab]; simp
  | true =>
   rw [e1, Xaz] at s1
   rw [Xij s1, Xbw s2, Xab]
   simp only
   rw [e0, e1, if_pos rfl, if_pos rfl] at h
   rw [Xnj _ e0, Xab, Xnj _ e1, Xab, wk (by omega) (by omega)]
   simp
def Xgx (n : Int) : Int := if n = 1 then 16 else if n = 2 then 64 else if n = 3 then 256 else 0
theorem Xls (n : Int) : Xdb n = some (Xgx n) := by
 unfold Xdb Xgx
 simp only [Yg0, beq_iff_eq]
 repeat' split
 all_goals rfl
theorem Xli (n : Int) : Xc7 n = some (Xgx n) := by
 unfold Xc7 Xgx
 rw [Xal, Xab, Ycm]
 by_cases h : 1 ≤ n ∧ n ≤ 3
 ·
  rw [Xaj h, wk (by omega) (by omega), Xam (by simp only [List.length_cons, List.length_nil]; omega), Xam (by simp only [List.length_cons, List.length_nil]; omega)]
  rcases (show n = 1 ∨ n = 2 ∨ n = 3 by omega) with rfl | rfl | rfl <;> rfl
 ·
  rw [Xat h, if_neg (by omega), if_neg (by omega), if_neg (by omega)]
def Xht (s : Seq) : Bool := decide (1 ≤ Xeu s ∧ Xeu s ≤ Xgx s.Level) && decide (3 ≤ s.Bits ∧ s.Bits ≤ 8)
theorem Xjy (s : Seq) : Xge s = some (Xht s) := by
 unfold Xge Xht
 simp only [Xpq, Xls, Xa7, Xab, Xg6]
theorem Xhg (s : Seq) (h1 : s.Cols.length ≤ maxLen) (h2 : s.Rows.length ≤ maxLen) : Xfd s = some (Xht s) := by
 unfold Xfd Xht
 simp only [Xiw s h1 h2, Xli, Xal, Xab, Xg6]
theorem Xcc {s : Seq} (h : Xht s = true) : Xd9 s.Cols = true ∧ Xd9 s.Rows = true ∧ 3 ≤ s.Bits ∧ s.Bits ≤ 8 := by
 unfold Xht at h
 rw [Bool.and_eq_true, decide_eq_true_eq, decide_eq_true_eq] at h
 obtain ⟨⟨h1, _⟩, h3⟩ := h
 unfold Xeu Xpy at h1
 refine ⟨?_, ?_, h3⟩
 ·
  refine Classical.byContradiction fun e => ?_
  rw [if_neg e, Int.zero_mul] at h1; omega
 ·
  refine Classical.byContradiction fun e => ?_
  rw [if_neg e, Int.mul_zero] at h1; omega
def Xbf (s : Seq) : Int := if Xht s = true then (s.Cols.length : Int) * s.Rows.length else 0
theorem Xea {l : List Int} (h : Xd9 l = true) : 1 ≤ l.length ∧ l.length ≤ 4 := by
 unfold Xd9 at h; rw [Bool.and_eq_true, decide_eq_true_eq] at h; exact h.1
theorem Xux {s : Seq} (h : Xht s = true) : 1 ≤ (s.Cols.length : Int) * s.Rows.length ∧ (s.Cols.length : Int) * s.Rows.length ≤ 16 := by
 obtain ⟨h1, h2, _⟩ := Xcc h
 have a := Xea h1
 have b := Xea h2
 have e : ∀ x y : Nat, 1 ≤ x → x ≤ 4 → 1 ≤ y → y ≤ 4 → 1 ≤ x * y ∧ x * y ≤ 16 := by
  intro x y h1 h2 h3 h4
  rcases (show x = 1 ∨ x = 2 ∨ x = 3 ∨ x = 4 by omega) with rfl | rfl | rfl | rfl <;> omega
 have := e _ _ a.1 a.2 b.1 b.2
 rw [← Int.natCast_mul]; omega
theorem Xfz (s : Seq) : Xc2 s = some (Xbf s) := by
 unfold Xc2 Xbf
 rw [Xjy, Xab, Ycm]
 cases h : Xht s with
 | false => rfl
 | true => have := Xux h; rw [Xaz, wk (by omega) (by omega), if_pos rfl]
theorem Xfn (s : Seq) (h1 : s.Cols.length ≤ maxLen) (h2 : s.Rows.length ≤ maxLen) : Xcy s = some (Xbf s) := by
 unfold Xcy Xbf
 rw [Xhg s h1 h2, Xab, Ycm]
 cases h : Xht s with
 | false => rfl
 | true => have := Xux h; rw [Xaz, wk (by omega) (by omega), if_pos rfl]
def Yat (s : Seq) : Int × Int := if Xht s = true then (8 * Xhj s.Cols, 8 * Xhj s.Rows) else (0, 0)
theorem Ydj {l : List Int} (h : Xd9 l = true) : 1 ≤ Xhj l ∧ Xhj l ≤ 32 := by
 unfold Xd9 at h
 rw [Bool.and_eq_true, decide_eq_true_eq] at h
 have := Xjt h.2
 omega
def Xh2 (p : Par) : Bool := decide (0 ≤ p.Qp ∧ p.Qp ≤ 40) && !(p.Large && p.Exact)
theorem Xcg (p : Par) : Xd0 p = some (Xh2 p) := by
 unfold Xd0 Xh2
 rw [Xa7, Xab, Xx5, Xg6, Xab]
 cases p.Large <;> cases p.Exact <;> rfl
theorem Xcx (p : Par) : Xdv p = some (Xh2 p) := by
 unfold Xdv Xh2
 rw [Xal, Xab, Xx5, Xg6, Xab]
 cases p.Large <;> cases p.Exact <;> rfl
theorem Xk6 {s : Seq} (h : Xbf s = 1) : Xht s = true := by
 unfold Xbf at h
 refine Classical.byContradiction fun e => ?_
 rw [if_neg e] at h; cases h
theorem Xj3 (l : List Int) (hl : l.length ≤ 9223372036854775806) : Xf5 l l = some true := by
 unfold Xf5
 rw [Xbq (by simp), Xt6 l.length (f := Xey l l) (by
  intro i hi
  unfold Xey
  rw [Xaj (by omega), Xam (by omega), Xam (by omega), Xbq (by simp), wk (by omega) (by omega)]
  rfl) (by unfold Xey; rw [Xat (by omega)])]
 rfl
def Xkh (k : Int) : List Int → List Int
 | [] => []
 | _ :: r => k :: Xkh (k + 1) r
theorem Xzc : ∀ (l : List Int) (k : Int), (Xkh k l).length = l.length
 | [], _ => rfl
 | _ :: r, k => by rw [Xkh, List.length_cons, List.length_cons, Xzc r]
theorem Xj7 (l : List Int) (k : Int) (h0 : 0 < k) (h1 : k ≤ 1000000000) (hl : l.length ≤ 100000000) : Xen l k = some (k + l.length, Xkh k l) := by
 unfold Xen
 have key : ∀ (r a : List Int) (j : Int), 0 < j → j + r.length ≤ 2000000000 → a.length + r.length ≤ 100000000 → loop Xds (j, (a.length : Int), a ++ r) = some (j + r.length, a ++ Xkh j r) := by
  intro r
  induction r with
  | nil =>
   intro a j hj1 hj2 hl
   refine Xbk ?_
   unfold Xds
   simp only [List.append_nil]
   rw [Xat (by omega)]
   simp [Xkh]
  | cons p r ih =>
   intro a j hj1 hj2 hl
   simp only [List.length_cons] at hj2 hl ⊢
   have hcl : ∀ x : Int, (a ++ x :: r).length = a.length + (r.length + 1) := fun x => by simp
   refine lgo (y := (j + 1, ((a ++ [j]).length : Int), (a ++ [j]) ++ r)) ?_ ?_
   ·
    unfold Xds
    simp only [Int.toNat_natCast, Xx6, hcl]
    rw [Xaj (by omega), Xam (by omega), Xam (by omega), wk (e := j + 1) (by omega) (by omega), wk (by omega) (by omega)]
    simp
   ·
    rw [ih _ (j + 1) (by omega) (by omega) (by simp; omega)]
    simp only [Xkh, List.append_assoc, List.singleton_append]
    congr 2
    omega
 have := key l [] k h0 (by omega) (by simp; omega)
 simp only [List.length_nil, List.nil_append] at this
 rw [show ((k, 0, l) : Int × Int × List Int) = (k, ((0 : Nat) : Int), l) from rfl, this]
 rfl
theorem Xj5 (l : List Int) (k : Int) (h0 : 0 < k) (h1 : k ≤ 1000000000) (hl : l.length ≤ 100000000) : Xem (Xkh k l) k = some (k + l.length) := by
 unfold Xem
 have key : ∀ (r a : List Int) (j : Int), 0 < j → j + r.length ≤ 2000000000 → a.length + r.length ≤ 100000000 → loop (Xdr (a ++ Xkh j r)) (j, (a.length : Int)) = some (.out (j + r.length)) := by
  intro r
  induction r with
  | nil =>
   intro a j hj1 hj2 hl
   refine Xbk ?_
   unfold Xdr
   simp only [Xkh, List.append_nil]
   rw [Xat (by omega)]
   simp
  | cons p r ih =>
   intro a j hj1 hj2 hl
   simp only [List.length_cons] at hj2 hl ⊢
   have hcl : ∀ (x : Int) (r : List Int), (a ++ x :: r).length = a.length + (r.length + 1) := fun x r => by simp
   refine lgo (y := (j + 1, ((a ++ [j]).length : Int))) ?_ ?_
   ·
    unfold Xdr
    simp only [Xkh, Int.toNat_natCast, Xjp, hcl, Xzc]
    rw [Xaj (by omega), Xam (by omega), Xbq (by simp), wk (e := j + 1) (by omega) (by omega), wk (by omega) (by omega)]
    simp
   ·
    have := ih (a ++ [j]) (j + 1) (by omega) (by omega) (by simp; omega)
    simp only [Xkh]
    rw [List.append_assoc, List.singleton_append] at this
    rw [this]
    congr 2
    omega
 have := key l [] k h0 (by omega) (by simp; omega)
 simp only [List.length_nil, List.nil_append] at this
 rw [show ((k, 0) : Int × Int) = (k, ((0 : Nat) : Int)) from rfl, this]
 rfl
theorem Xtf (s : Seq) (h1 : s.Cols.length ≤ 9223372036854775806) (h2 : s.Rows.length ≤ 9223372036854775806) : Xi7 s s = some true := by
 unfold Xi7
 simp only [Xj3 _ h1, Xj3 _ h2, Xab, bne_self_eq_false, Xax, Bool.not_true]
theorem Xtj (s : Seq) (k : Int) (h0 : 0 < k) (h1 : k ≤ 100000000) (hc : s.Cols.length ≤ 100000000) (hr : s.Rows.length ≤ 100000000) : Xgu s k = some (k + s.Cols.length + s.Rows.length, (⟨s.Level, s.Bits, Xkh k s.Cols, Xkh (k + s.Cols.length) s.Rows⟩ : Seq)) := by
 unfold Xgu
 rw [Xj7 _ _ h0 (by omega) hc, Xab, Xj7 _ _ (by omega) (by omega) hr, Xab]
theorem Xth (s : Seq) (c r : List Int) (k : Int) (h0 : 0 < k) (h1 : k ≤ 100000000) (hc : c.length ≤ 100000000) (hr : r.length ≤ 100000000) (ec : s.Cols = Xkh k c) (er : s.Rows = Xkh (k + c.length) r) : Xgt s k = some (k + c.length + r.length) := by
 unfold Xgt
 rw [ec, Xj5 _ _ h0 (by omega) hc, Xab, Xat (by omega), er, Xj5 _ _ (by omega) (by omega) hr, Xab, Xat (by omega)]
theorem Xtc (p : Par) : Xi6 p p = some true := by
 unfold Xi6
 simp only [bne_self_eq_false, Xax, beq_self_eq_true, Bool.not_true]
def Ygg (l : List Int) : Prop := ∀ x ∈ l, 0 ≤ x ∧ x ≤ 255
theorem Yfb (l : List Int) (h : Ygg l) : Xde (strOfNums l) = l := by
 unfold Xde
 rw [strOfNums_data, List.map_map]
 have : ∀ x ∈ l, ((fun b : UInt8 => (b.toNat : Int)) ∘ fun n : Int => UInt8.ofNat n.toNat) x = x := by
  intro x hx
  have := h x hx
  simp only [Function.comp_apply, UInt8.toNat_ofNat']
  omega
 rw [List.map_congr_left this, List.map_id']
theorem Xyn (l : List Int) (h : Ygg l) (i : Nat) (hi : i < l.length) : Xhd (strOfNums l) (i : Int) = l.getD i 0 := by
 unfold Xhd
 rw [dif_pos (by rw [Int.toNat_natCast, strOfNums_size]; exact hi)]
 have hx := h l[i] (List.getElem_mem hi)
 rw [Xie l i hi]
 show ((((l.map fun n => UInt8.ofNat n.toNat).toArray)[(i : Int).toNat]'(by simpa using hi)).toNat : Int) = _
 simp only [Int.toNat_natCast, List.getElem_toArray, List.getElem_map, UInt8.toNat_ofNat']
 omega
def Yek : Nat → Int → List Int
 | 0, _ => []
 | w + 1, n => Yek w (n / 2) ++ [48 + n % 2]
theorem Ya8 : ∀ (w : Nat) (n : Int), (Yek w n).length = w
 | 0, _ => rfl
 | w + 1, n => by rw [Yek, List.length_append, Ya8 w]; rfl
def Xh0 (l : List Int) : Prop := ∀ x ∈ l, x = 48 ∨ x = 49
theorem Xz8 {a b : List Int} (ha : Xh0 a) (hb : Xh0 b) : Xh0 (a ++ b) := fun x hx => (List.mem_append.1 hx).elim (ha x) (hb x)
theorem Xkj {l : List Int} (h : Xh0 l) : Ygg l := fun x hx => by rcases h x hx with e | e <;> omega
theorem Yex : Xh0 [] := fun x hx => by simp at hx
theorem Ya7 : ∀ (w : Nat) (n : Int), Xh0 (Yek w n)
 | 0, _ => Yex
 | w + 1, n => Xz8 (Ya7 w (n / 2)) (fun x hx => by rw [List.mem_singleton.1 hx]; omega)
theorem Ye3 : ∀ (k : Nat) (n : Int) (s : List Int), 0 ≤ n → n ≤ 9223372036854775807 → k + s.length ≤ 100000 → loop Xe5 (n, (k : Int) - 1, List.replicate k 0 ++ s) = some (Yek k n ++ s) := by
 intro k
 induction k with
 | zero =>
  intro n s h0 h1 hl
  refine Xbk ?_
  unfold Xe5
  simp only
  rw [Xat (by omega)]
  simp [Yek]
 | succ k ih =>
  intro n s h0 h1 hl
  have e1 : List.replicate (k + 1) (0 : Int) ++ s = List.replicate k 0 ++ 0 :: s := by rw [List.replicate_succ', List.append_assoc]; rfl
  have e2 := Xx6 (List.replicate k (0 : Int)) 0 (48 + n % 2) s
  rw [List.length_replicate] at e2
  refine lgo (y := (n / 2, (k : Int) - 1, List.replicate k 0 ++ (48 + n % 2) :: s)) ?_ ?_
  ·
   unfold Xe5
   have e3 : (((k + 1 : Nat) : Int) - 1).toNat = k := by omega
   simp only [e1, e3]
   rw [Xaj (by omega), Xam (by decide), Xam (by simp; omega), Xam (by simp), Xam (by decide), Xlf h0, Xic h0, wk (e := 48 + n % 2) (by omega) (by omega), w8 (by omega) (by omega), e2, wk (by omega) (by omega), wk (by omega) (by omega)]
   rw [show ((k + 1 : Nat) : Int) - 1 - 1 = (k : Int) - 1 by omega]
  ·
   rw [ih (n / 2) ((48 + n % 2) :: s) (by omega) (by omega) (by simp; omega), Yek, List.append_assoc]; rfl
theorem Xwf (n : Int) (w : Nat) (h0 : 0 ≤ n) (h1 : n ≤ 9223372036854775807) (hw : w ≤ 1000) : Xhx n (w : Int) = some (strOfNums (Yek w n)) := by
 unfold Xhx
 rw [Xam (by omega), wk (by omega) (by omega), Int.toNat_natCast]
 have := Ye3 w n [] h0 h1 (by simp; omega)
 rw [List.append_nil, List.append_nil] at this
 rw [this, Xab]
theorem Yey (x : Int) (h : x = 48 ∨ x = 49) : ((x != 48) && (x != 49)) = false := by rcases h with rfl | rfl <;> rfl
theorem Ybs (l : List Int) (hl : Xh0 l) (hn : l.length ≤ 9223372036854775806) (f : Int → Option (Lp Int (Ou Unit Bool)))
  (h : ∀ i : Nat, i < l.length → f (i : Int) = sel (((l.getD i 0) != 48) && ((l.getD i 0) != 49)) (some (.done (.ret false))) (some (.go ((i + 1 : Nat) : Int)))) (h0 : f (l.length : Int) = some (.done (.out ()))) : loop f 0 = some (.out ()) :=
 Xt6 l.length (fun i hi => by rw [h i hi, Yey _ (by rw [Xie l i hi]; exact hl _ (List.getElem_mem hi)), Xax]) h0
theorem Xwh (l : List Int) (hl : Xh0 l) (hn : l.length ≤ 9223372036854775806) : Xgf (strOfNums l) = some true := by
 unfold Xgf
 rw [Ybs l hl hn (Xb5 (strOfNums l)) (fun i hi => by
  unfold Xb5
  rw [strOfNums_size, Xyn l (Xkj hl) i hi, Xaj (by omega), Xam (by omega), Xam (by omega), Xg6, Xab, wk (by omega) (by omega)]; rfl) (by
  unfold Xb5; rw [strOfNums_size, Xat (by omega)])]
 rfl
theorem Xya (l : List Int) (hl : Xh0 l) (hn : l.length ≤ 400000) : Xer (strOfNums l) = some true := by
 unfold Xer
 rw [strOfNums_size, Xaj (by omega), Xwh l hl (by omega), Xab, Xab]
theorem Xxg (l : List Int) (hl : Xh0 l) (hn : l.length ≤ 400000) : Xfc (strOfNums l) = some true := by
 unfold Xfc
 rw [strOfNums_size, Xat (by omega), Ybs l hl (by omega) (Xej (strOfNums l)) (fun i hi => by
  unfold Xej
  rw [strOfNums_size, Xyn l (Xkj hl) i hi, Xaj (by omega), Xam (by omega), Xam (by omega), Xg6, Xab, wk (by omega) (by omega)]; rfl) (by
  unfold Xej; rw [strOfNums_size, Xat (by omega)])]
 rfl
def Xin (l : List Int) : Int := l.foldl (fun x b => 2 * x + b - 48) 0
theorem Yhe (l : List Int) : ∀ x : Int, l.foldl (fun x b => 2 * x + b - 48) x = x * 2 ^ l.length + Xin l := by
 induction l with
 | nil => intro x; simp [Xin]
 | cons b l ih =>
  intro x
  unfold Xin
  rw [List.foldl_cons, List.foldl_cons, ih, ih (2 * 0 + b - 48), List.length_cons, Int.pow_succ]
  have e1 : (2 * x + b - 48) * 2 ^ l.length = 2 * (x * 2 ^ l.length) + (b - 48) * 2 ^ l.length := by
   rw [show 2 * x + b - 48 = 2 * x + (b - 48) by omega, Int.add_mul, Int.mul_assoc]
  have e2 : x * (2 ^ l.length * 2) = 2 * (x * 2 ^ l.length) := by rw [← Int.mul_assoc, Int.mul_comm]
  rw [e1, e2, show (2 : Int) * 0 + b - 48 = b - 48 by omega]
  omega
theorem Ya0 (a b : List Int) : Xin (a ++ b) = Xin a * 2 ^ b.length + Xin b := by
 show (a ++ b).foldl _ 0 = _
 rw [List.foldl_append]
 exact Yhe b (Xin a)
theorem Xjj {l : List Int} (h : Xh0 l) : 0 ≤ Xin l ∧ Xin l < 2 ^ l.length := by
 induction l with
 | nil => simp [Xin]
 | cons b l ih =>
  have h1 := ih (fun x hx => h x (by simp [hx]))
  have h2 := h b (by simp)
  rw [show b :: l = [b] ++ l from rfl, Ya0, List.length_append, Int.pow_add, show Xin [b] = b - 48 by simp [Xin]]
  have : (2 : Int) ^ [b].length = 2 := rfl
  rw [this]
  rcases h2 with rfl | rfl <;> omega
def Xwo (k : Int) : Bool := k == 1 || (k == 5 || (k == 7 || k == 8))
theorem Xvj (k : Int) : Xhp k = some (Xwo k) := by
 unfold Xhp Xwo
 simp only [Xwy, Xab]
theorem Xur (k : Int) : Xgz k = some (Xwo k) := by
 unfold Xgz Xwo
 simp only [Xwy, Xab]
theorem Yfc {p : Par} (h : Xh2 p = true) : 0 ≤ p.Qp ∧ p.Qp ≤ 40 := by
 unfold Xh2 at h; rw [Bool.and_eq_true, decide_eq_true_eq] at h; exact h.1
theorem Xmj (l : List ByteArray) (hl : l.length ≤ 9223372036854775806) : Xez l l = some true := by
 unfold Xez
 rw [Xbq (by simp), Xt6 l.length (f := Xc8 l l) (by
  intro i hi
  unfold Xc8
  rw [Xaj (by omega), Xam (by omega), Xam (by omega), Xbq (by simp), wk (by omega) (by omega)]
  rfl) (by unfold Xc8; rw [Xat (by omega)])]
 rfl
noncomputable def Ydr (k : Int) : List ByteArray → List ByteArray
 | [] => []
 | _ :: r => mT k :: Ydr (k + 1) r
theorem Xml (l : List ByteArray) (k : Int) (h0 : 0 < k) (h1 : k ≤ 1000000000) (hl : l.length ≤ 100000000) : Xdt l k = some (k + l.length, Ydr k l) := by
 unfold Xdt
 have key : ∀ (r a : List ByteArray) (j : Int), 0 < j → j + r.length ≤ 2000000000 → a.length + r.length ≤ 100000000 → loop Xcl (j, (a.length : Int), a ++ r) = some (j + r.length, a ++ Ydr j r) := by
  intro r
  induction r with
  | nil =>
   intro a j hj1 hj2 hl
   refine Xbk ?_
   unfold Xcl
   simp only [List.append_nil]
   rw [Xat (by omega)]
   simp [Ydr]
  | cons p r ih =>
   intro a j hj1 hj2 hl
   simp only [List.length_cons] at hj2 hl ⊢
   have hcl : ∀ x : ByteArray, (a ++ x :: r).length = a.length + (r.length + 1) := fun x => by simp
   refine lgo (y := (j + 1, ((a ++ [mT j]).length : Int), (a ++ [mT j]) ++ r)) ?_ ?_
   ·
    unfold Xcl
    simp only [Int.toNat_natCast, Xx6, hcl]
    rw [Xaj (by omega), Xq9 _ hj1 (by omega), Xab, Xam (by omega), Xam (by omega), wk (e := j + 1) (by omega) (by omega), wk (by omega) (by omega)]
    simp
   ·
    rw [ih _ (j + 1) (by omega) (by omega) (by simp; omega)]
    simp only [Ydr, List.append_assoc, List.singleton_append]
    congr 2
    omega
 have := key l [] k h0 (by omega) (by simp; omega)
 simp only [List.length_nil, List.nil_append] at this
 exact Xh1 this
theorem Xl4 (l : List Int) (hl : l.length ≤ 1048576) : Xf7 l = some l := by
 unfold Xf7
 rw [Xam (by omega), Int.toNat_natCast]
 have := Xsj l (fun p : Int => p) 0 (0 : Int) (f := Xe2 l) (by
  intro i o hi ho
  unfold Xe2
  simp only
  rw [Xaj (by omega), Xam (by omega), Xam (by omega), Xam (by omega), wk (by omega) (by omega)]
  rfl) (by
  intro o; unfold Xe2; simp only; rw [Xat (by omega)])
 rw [this, Xab, List.map_id']
theorem Xxr (s : Seq) (h1 : s.Cols.length ≤ 1048576) (h2 : s.Rows.length ≤ 1048576) : Xhk s = some s := by
 unfold Xhk
 rw [Xl4 _ h1, Xab, Xl4 _ h2, Xab]
theorem Xl2 (l : List Int) (m : Int) (hl : l.length ≤ maxLen) (h0 : 0 ≤ m) (h1 : m ≤ 1048576) : Xf6 l m = some (if m < l.length then -1 else m - l.length) := by
 have hm : maxLen = 9223372036854775807 := rfl
 unfold Xf6
 rw [wk (by omega) (by omega), Xzq]
 by_cases h : m < l.length
 ·
  rw [if_pos h, if_pos (by omega)]
 ·
  rw [if_neg h, if_neg (by omega)]
theorem Xxq (s : Seq) (m : Int) (h1 : s.Cols.length ≤ maxLen) (h2 : s.Rows.length ≤ maxLen) (h0 : 0 ≤ m) (hm : m ≤ 1048576) : ∃ t, Xjc s m = some t ∧ t ≤ m ∧ -1 ≤ t ∧ (0 ≤ t → s.Cols.length ≤ 1048576 ∧ s.Rows.length ≤ 1048576) := by
 unfold Xjc
 rw [Xl2 _ m h1 h0 hm, Xab]
 by_cases e1 : m < s.Cols.length
 ·
  rw [if_pos e1, Xaj (by omega)]; exact ⟨_, rfl, by omega, by omega, by omega⟩
 ·
  rw [if_neg e1, Xat (by omega), Xl2 _ _ h2 (by omega) (by omega), Xab]
  by_cases e2 : m - s.Cols.length < s.Rows.length
  ·
   rw [if_pos e2, Xaj (by omega)]; exact ⟨_, rfl, by omega, by omega, by omega⟩
  ·
   rw [if_neg e2, Xat (by omega)]; exact ⟨_, rfl, by omega, by omega, fun _ => by omega⟩
def Yif (x : Int) : Bool := decide (-5000 ≤ x ∧ x ≤ 5000)
def Yhf (l : List Int) : Bool := decide (l.length = 64) && l.all Yif
theorem Xw7 (p : Int → Bool) (l : List Int) (f : Int → Option (Lp Int (Ou Unit Bool))) (h : ∀ i : Nat, i < l.length → f (i : Int) = sel (!(p (l.getD i 0))) (some (.done (.ret false))) (some (.go ((i + 1 : Nat) : Int)))) (h0 : f (l.length : Int) = some (.done (.out ()))) :
  loop f 0 = some (if l.all p = true then .out () else .ret false) := by
 have key : ∀ (r a : List Int), l = a ++ r → loop f (a.length : Int) = some (if r.all p = true then .out () else .ret false) := by
  intro r
  induction r with
  | nil => intro a ha; rw [List.append_nil] at ha; rw [← ha, Xbw h0]; rfl
  | cons x r ih =>
   intro a ha
   have hlen : a.length < l.length := by rw [ha]; simp
   have hx : l.getD a.length 0 = x := by rw [ha]; exact Xjp a x _ r
   have hs := h a.length hlen
   rw [hx] at hs
   cases e : p x with
   | true =>
    rw [e] at hs
    have := ih (a ++ [x]) (by rw [ha]; simp)
    rw [List.length_append, List.length_singleton] at this
    rw [Xij hs, this, List.all_cons, e, Bool.true_and]
   | false => rw [e] at hs; rw [Xbw hs, List.all_cons, e, Bool.false_and]; rfl
 exact key l [] rfl
theorem Xwi (l : List Int) : Xgh l 64 5000 = some (Yhf l) := by
 unfold Xgh Yhf
 by_cases h : l.length = 64
 ·
  rw [Xbq (by simp only [bne_eq_false_iff_eq]; omega), Xw7 Yif l (Xe7 l 64 5000) (by
   intro i hi
   unfold Xe7
   rw [Xaj (by omega), Xam (by omega), wk (e := 0 - 5000) (by omega) (by omega), Xa7, Xab, wk (by omega) (by omega), Int.toNat_natCast]
   rfl) (by unfold Xe7; rw [Xat (by omega)]), Xab, decide_eq_true h, Bool.true_and]
  cases l.all Yif <;> rfl
 ·
  rw [Xda (by simp only [bne_iff_ne, ne_eq]; omega), decide_eq_false h, Bool.false_and]
theorem Xxj (l : List Int) (n lo hi : Int) (hl : l.length ≤ 9223372036854775806) : Xix l n lo hi = some (l.all (fun x => decide (lo ≤ x ∧ x ≤ hi)) && ((l.length : Int) == n)) := by
 unfold Xix
 rw [Xw7 (fun x => decide (lo ≤ x ∧ x ≤ hi)) l (Xfo l lo hi) (by
   intro i hi
   unfold Xfo
   rw [Xaj (by omega), Xam (by omega), Xal, Xab, wk (by omega) (by omega), Int.toNat_natCast]
   rfl) (by unfold Xfo; rw [Xat (by omega)]), Xab]
 cases l.all (fun x => decide (lo ≤ x ∧ x ≤ hi)) <;> rfl
theorem Xo1 (l : List Int) (hl : l.length ≤ 9223372036854775806) : Xdw l = some (Yhf l) := by
 unfold Xdw Yhf
 rw [Xxj l _ _ _ hl, Xab]
 show some (l.all Yif && ((l.length : Int) == 64)) = _
 have : ((l.length : Int) == 64) = decide (l.length = 64) := by rw [Bool.eq_iff_iff]; simp only [beq_iff_eq, decide_eq_true_eq]; omega
 rw [this, Bool.and_comm]
def Xlv (c : Xmv) : Bool := decide (0 ≤ c.Qp ∧ c.Qp ≤ 40) && !(c.Large && c.Exact)
theorem Xim (c : Xmv) : Xhu c = some (Xlv c) := by
 unfold Xhu Xlv
 rw [Xa7, Xab, Xx5, Xg6, Xab]
 cases c.Large <;> cases c.Exact <;> rfl
theorem Xgk (c : Xmv) : Xhl c = some (Xlv c) := by
 unfold Xhl Xlv
 rw [Xal, Xab, Xx5, Xg6, Xab]
 cases c.Large <;> cases c.Exact <;> rfl
def Yeb (s : Xas) : Bool :=
 if s.Kind = 0 then decide (s.Mode = 0 ∧ s.Dx = 0 ∧ s.Dy = 0 ∧ s.Levels.length = 0)
 else if s.Kind = 1 then decide (s.Mode = 0) && (decide (-16 ≤ s.Dx ∧ s.Dx ≤ 16) && (decide (-16 ≤ s.Dy ∧ s.Dy ≤ 16) && Yhf s.Levels))
 else if s.Kind = 2 then decide (0 ≤ s.Mode ∧ s.Mode ≤ 3) && (decide (s.Dx = 0) && (decide (s.Dy = 0) && Yhf s.Levels))
 else false
theorem Yc7 (a b : Int) : (a == b) = decide (a = b) := by rw [Bool.eq_iff_iff]; simp
theorem Xj8 (s : Xas) : Xdn s = some (Yeb s) := by
 unfold Xdn Yeb
 simp only [Xa7, Xwi, Xab, Xg6, Yc7]
 simp only [Xzq]
 by_cases h0 : s.Kind = 0
 ·
  rw [if_pos h0, if_pos h0]; congr 1; rw [Bool.eq_iff_iff]; simp
 ·
  rw [if_neg h0, if_neg h0]
  by_cases h1 : s.Kind = 1
  ·
   rw [if_pos h1, if_pos h1]
  ·
   rw [if_neg h1, if_neg h1]
   by_cases h2 : s.Kind = 2
   ·
    rw [decide_eq_true h2, Bool.true_and, if_pos h2]
   ·
    rw [decide_eq_false h2, Bool.false_and, if_neg h2]
theorem Xg3 (s : Xas) (hl : s.Levels.length ≤ 9223372036854775806) : Xek s = some (Yeb s) := by
 unfold Xek Yeb
 simp only [Xal, Xo1 _ hl, Xab, Xg6, Yc7]
 simp only [Xzq]
 by_cases h0 : s.Kind = 0
 ·
  rw [if_pos h0, if_pos h0]; congr 1; rw [Bool.eq_iff_iff]; simp
 ·
  rw [if_neg h0, if_neg h0]
  by_cases h1 : s.Kind = 1
  ·
   rw [if_pos h1, if_pos h1]
  ·
   rw [if_neg h1, if_neg h1]
   by_cases h2 : s.Kind = 2
   ·
    rw [decide_eq_true h2, Bool.true_and, if_pos h2]
   ·
    rw [decide_eq_false h2, Bool.false_and, if_neg h2]
def Xzs (s : Xas) (c : Xmv) : Bool := !c.Key || s.Kind == 2
def Yea (l : List Xas) (c : Xmv) : Bool := l.all fun s => Yeb s && (Xlv c && Xzs s c)
theorem Xr6 (b : ByteArray) (i : Int) : 0 ≤ Xhd b i ∧ Xhd b i ≤ 255 := by
 unfold Xhd
 split
 ·
  rename_i h
  have := (b[i.toNat]'h).toNat_lt
  omega
 ·
  omega
theorem Xpx (s : ByteArray) : strOfNums (Xde s) = s := by
 apply ByteArray.ext
 apply Array.ext'
 simp only [strOfNums, Xde, List.map_map]
 conv => rhs; rw [← List.map_id s.data.toList]
 refine List.map_congr_left fun c _ => ?_
 simp
theorem Ycw {a b : ByteArray} : a.toList = b.toList ↔ a = b := by
 constructor
 ·
  intro h
  rw [ByteArray.toList_eq, ByteArray.toList_eq] at h
  exact ByteArray.ext (Array.ext' h)
 ·
  intro h; rw [h]
theorem Yg3 {S : Type} {f : Int × S → Option (Lp (Int × S) S)} (n : Nat) (I : Nat → S → Prop) (hs : ∀ (i : Nat) (l : S), i < n → I i l → ∃ l', f ((i : Int), l) = some (.go (((i + 1 : Nat) : Int), l')) ∧ I (i + 1) l') (he : ∀ l, f ((n : Int), l) = some (.done l)) (l0 : S) (h0 : I 0 l0) : ∃ o, loop f (0, l0) = some o ∧ I n o := by
 have key : ∀ i : Nat, i ≤ n → ∀ l, I i l → ∃ o, loop f ((i : Int), l) = some o ∧ I n o := by
  refine Xjn _ ?_ ?_
  ·
   intro l h; exact ⟨l, Xbk (he l), h⟩
  ·
   intro i hi ih l h
   obtain ⟨l', e, h'⟩ := hs i l hi h
   obtain ⟨o, e2, h2⟩ := ih l' h'
   exact ⟨o, lgo e e2, h2⟩
 exact key 0 (by omega) l0 h0
def Yd5 (u v : Int) : Int := match it Xwa 10 (1, (IntKind.wrap .i64 (BitVec.ofInt (IntKind.bits .i64) u &&& BitVec.ofInt (IntKind.bits .i64) v).toNat)) with | some q => q | none => 7
theorem Ye8 {n : Nat} (g : Nat → Int) {i : Nat} (h : i < n) : ((List.range n).map g).getD i 0 = g i := by
 rw [Xie _ i (by simpa using h)]; simp
theorem Yew {α : Type} {f : Int × List α → Option (Lp (Int × List α) (List α))} (n : Nat) (g : Nat → α) (a : List α) (hs : ∀ i : Nat, i < n → f ((i : Int), a ++ (List.range i).map g) = some (.go (((i + 1 : Nat) : Int), a ++ (List.range i).map g ++ [g i]))) (he : f ((n : Int), a ++ (List.range n).map g) = some (.done (a ++ (List.range n).map g))) : loop f (0, a) = some (a ++ (List.range n).map g) := by
 have key : ∀ i : Nat, i ≤ n → loop f ((i : Int), a ++ (List.range i).map g) = some (a ++ (List.range n).map g) := by
  refine Xjn _ (Xbk he) ?_
  intro i hi ih
  refine lgo (hs i hi) ?_
  rw [List.append_assoc, show (List.range i).map g ++ [g i] = (List.range (i + 1)).map g by simp [List.range_succ]]
  exact ih
 have := key 0 (by omega)
 simpa using this
theorem Yal (s : ByteArray) (k : Nat) (hk : k < s.size) : (Xde s).getD k 0 = Xhd s k := by
 have := Xyn (Xde s) (by intro x hx; obtain ⟨b, _, rfl⟩ := List.mem_map.1 hx; have := b.toNat_lt; omega) k (by rw [Xcf]; exact hk)
 rw [Xpx] at this
 exact this.symm
theorem Yhq (a b : List Int) (i : Nat) : (a ++ b).getD (a.length + i) 0 = b.getD i 0 := by
 rw [List.getD_eq_getElem?_getD, List.getD_eq_getElem?_getD, List.getElem?_append_right (by omega)]
 congr 2; omega
theorem Yhp (a b : List Int) (i : Nat) (hi : i < a.length) : (a ++ b).getD i 0 = a.getD i 0 := by
 rw [List.getD_eq_getElem?_getD, List.getD_eq_getElem?_getD, List.getElem?_append_left hi]
theorem Yhu (v x : Int) (h0 : 0 ≤ v) (h1 : v ≤ 1000000000000000000) (hx : x = 0 ∨ x = 1) : IntKind.wrap .i64 (BitVec.ofInt (IntKind.bits .i64) (v * 2) ||| BitVec.ofInt (IntKind.bits .i64) x).toNat = v * 2 + x := by
 obtain ⟨a, rfl⟩ : ∃ a : Nat, v = a := ⟨v.toNat, by omega⟩
 obtain ⟨b, rfl⟩ : ∃ b : Nat, x = b := ⟨x.toNat, by omega⟩
 have h : (BitVec.ofInt 64 ((a : Int) * 2) ||| BitVec.ofInt 64 (b : Int)).toNat = a * 2 + b := by
  rw [BitVec.toNat_or, BitVec.toNat_ofInt, BitVec.toNat_ofInt]
  have e1 : (((a : Int) * 2) % ((2 ^ 64 : Nat) : Int)).toNat = a * 2 := by omega
  have e2 : ((b : Int) % ((2 ^ 64 : Nat) : Int)).toNat = b := by omega
  rw [e1, e2]
  have := Nat.two_pow_add_eq_or_of_lt (i := 1) (b := b) (by omega) a
  rw [show 2 ^ 1 * a = a * 2 by omega] at this
  exact this.symm
 show IntKind.wrap .i64 ((BitVec.ofInt 64 ((a : Int) * 2) ||| BitVec.ofInt 64 (b : Int)).toNat : Int) = _
 rw [h, ← Xok, wk (by omega) (by omega)]
 omega
theorem Xnz {i : Nat} (h : i ≤ 40) : (2 : Int) ^ i ≤ 1099511627776 := by
 have h2 : (2 : Nat) ^ i ≤ 1099511627776 := Nat.pow_le_pow_right (n := 2) (by omega) h
 have := Int.ofNat_le.2 h2
 rw [Int.natCast_pow] at this
 exact this
theorem Yas {L a f b : List Int} (hL : L = a ++ (f ++ b)) (hb : Xh0 L) (hl : L.length ≤ 400000) (hf : f.length ≤ 41) : Xap ⟨strOfNums L, (a.length : Int), false⟩ (f.length : Int) = some (Xin f, ⟨strOfNums L, ((a.length + f.length : Nat) : Int), false⟩) := by
 have hLl : L.length = a.length + (f.length + b.length) := by rw [hL]; simp only [List.length_append]
 have hfb : Xh0 f := fun x hx => hb x (by rw [hL]; simp [hx])
 unfold Xap
 simp only
 rw [Xax, strOfNums_size, wk (by omega) (by omega), Xab, Xat (by omega)]
 have key : ∀ i : Nat, i ≤ f.length → loop (Xdq ⟨strOfNums L, (a.length : Int), false⟩ (f.length : Int)) (Xin (f.take i), (i : Int)) = some (Xin f) := by
  refine Xjn _ ?_ ?_
  ·
   refine Xbk ?_
   unfold Xdq
   simp only
   rw [Xat (by omega), List.take_length]
  ·
   intro i hi ih
   refine lgo ?_ ih
   have hx : L.getD (a.length + i) 0 = f.getD i 0 := by rw [hL, Yhq, Yhp _ _ _ hi]
   have hbt : Xhd (strOfNums L) ((a.length : Int) + i) = f.getD i 0 := by
    rw [show (a.length : Int) + i = ((a.length + i : Nat) : Int) by omega, Xyn L (Xkj hb) _ (by omega), hx]
   have h2 : f.getD i 0 = 48 ∨ f.getD i 0 = 49 := hfb _ (by rw [Xie f i hi]; exact List.getElem_mem hi)
   have ht : Xh0 (f.take i) := fun x hx => hfb x (List.mem_of_mem_take hx)
   have hr := Xjj ht
   have hp : (2 : Int) ^ (f.take i).length ≤ 1099511627776 := Xnz (by rw [List.length_take]; omega)
   have hv : Xin (f.take (i + 1)) = Xin (f.take i) * 2 + (f.getD i 0 - 48) := by
    rw [List.take_add_one, Ya0, Xie f i hi, List.getElem?_eq_getElem hi]
    simp [Xin]
   unfold Xdq
   simp only
   rw [Xaj (by omega), Xam (by omega), wk (e := (a.length : Int) + i) (by omega) (by omega), Xam (by rw [strOfNums_size]; omega), hbt, w8 (by omega) (by omega), wk (e := f.getD i 0 - 48) (by omega) (by omega), show (2 : Int) ^ min (1 : Int).toNat (IntKind.bits .i64) = 2 from rfl, wk (e := Xin (f.take i) * 2) (by omega) (by omega), Yhu _ _ (by omega) (by omega) (by omega), wk (by omega) (by omega), hv]
   rfl
 have := key 0 (by omega)
 rw [List.take_zero] at this
 refine (Xh1 this).trans ?_
 rw [wk (by omega) (by omega)]
 rfl
def Yit (t : Nat → Int) : Nat → Int
 | 0 => 0
 | k + 1 => Yit t k + t k
def eT (f : Nat → Int) (u : Nat) : Int := Yit (fun k => Yd5 (u : Int) (k : Int) * f k) 8
def eS (X : Nat → Nat → Int) (u v : Nat) : Int := eT (fun i => eT (X i) v) u
theorem Ycu {L : List Int} {i w : Nat} (h : i + w ≤ L.length) : L = L.take i ++ ((L.drop i).take w ++ L.drop (i + w)) ∧ (L.take i).length = i ∧ ((L.drop i).take w).length = w := by
 refine ⟨?_, by rw [List.length_take]; omega, by rw [List.length_take, List.length_drop]; omega⟩
 rw [← List.drop_drop, List.take_append_drop, List.take_append_drop]
theorem Xs1 {L : List Int} (hb : Xh0 L) (hl : L.length ≤ 400000) {i w : Nat} (h : i + w ≤ L.length) (hw : w ≤ 41) : Xap ⟨strOfNums L, (i : Int), false⟩ (w : Int) = some (Xin ((L.drop i).take w), ⟨strOfNums L, ((i + w : Nat) : Int), false⟩) := by
 obtain ⟨h1, h2, h3⟩ := Ycu h
 have := Yas h1 hb hl (by omega)
 rw [h2, h3] at this
 exact this
theorem Xp3 {L : List Int} (hb : Xh0 L) {i : Nat} (h : i < L.length) : Xhd (strOfNums L) (i : Int) = L.getD i 0 ∧ (L.getD i 0 = 48 ∨ L.getD i 0 = 49) := ⟨Xyn L (Xkj hb) i h, hb _ (by rw [Xie L i h]; exact List.getElem_mem h)⟩
theorem Xj1 {L : List Int} {i k : Nat} (h : i + k < L.length) : Xin ((L.drop i).take (k + 1)) = 2 * Xin ((L.drop i).take k) + L.getD (i + k) 0 - 48 := by
 rw [List.take_add_one, Ya0, List.getElem?_eq_getElem (by rw [List.length_drop]; omega), List.getElem_drop, Xie L _ h]
 simp [Xin]
 omega
theorem Xmq {L : List Int} (hb : Xh0 L) (hl : L.length ≤ 400000) {i w : Nat} (hi : i ≤ L.length) (hw : w ≤ 41) : Xbn (strOfNums L) (i : Int) (w : Int) = some (if i + w ≤ L.length then (Xin ((L.drop i).take w), ((i + w : Nat) : Int), true) else (0, 0, false)) := by
 unfold Xbn
 rw [strOfNums_size, wk (e := (L.length : Int) - i) (by omega) (by omega)]
 by_cases h : i + w ≤ L.length
 ·
  rw [Xat (by omega), if_pos h]
  have key : ∀ k : Nat, k ≤ w → loop (Xed (strOfNums L) (i : Int) (w : Int)) (Xin ((L.drop i).take k), ((i + k : Nat) : Int)) = some (Xin ((L.drop i).take w)) := by
   refine Xjn _ ?_ ?_
   ·
    refine Xbk ?_
    unfold Xed
    simp only
    rw [Xat (by rw [wk (by omega) (by omega)]; omega)]
   ·
    intro k hk ih
    refine lgo ?_ ih
    obtain ⟨b1, b2⟩ := Xp3 hb (i := i + k) (by omega)
    have hr := Xjj (l := (L.drop i).take k) (fun x hx => hb x (List.mem_of_mem_drop (List.mem_of_mem_take hx)))
    have hp : (2 : Int) ^ ((L.drop i).take k).length ≤ 1099511627776 := Xnz (by rw [List.length_take]; omega)
    have hv := Xj1 (L := L) (i := i) (k := k) (by omega)
    unfold Xed
    simp only
    rw [Xaj (by rw [wk (by omega) (by omega)]; omega), Xam (by rw [strOfNums_size]; omega), b1, wk (e := 2 * Xin ((L.drop i).take k)) (by omega) (by omega), wk (e := L.getD (i + k) 0) (by omega) (by omega), wk (e := 2 * Xin ((L.drop i).take k) + L.getD (i + k) 0) (by omega) (by omega), wk (e := 2 * Xin ((L.drop i).take k) + L.getD (i + k) 0 - 48) (by omega) (by omega), wk (e := ((i + k : Nat) : Int) + 1) (by omega) (by omega), ← hv]
    rfl
  have := key 0 (by omega)
  refine (Xh1 this).trans ?_
  rw [wk (by omega) (by omega)]
  rfl
 ·
  rw [Xaj (by omega), if_neg h]
theorem Yb5 {L : List Int} (hb : Xh0 L) : ∀ n i : Nat, i + n = L.length → ∃ z : Nat, i + z ≤ L.length ∧ (∀ k, k < z → L.getD (i + k) 0 = 48) ∧ (i + z < L.length → L.getD (i + z) 0 = 49)
 | 0, i, h => ⟨0, by omega, fun k hk => by omega, fun h2 => by omega⟩
 | n + 1, i, h => by
  rcases (Xp3 hb (i := i) (by omega)).2 with e | e
  ·
   obtain ⟨z, h1, h2, h3⟩ := Yb5 hb n (i + 1) (by omega)
   refine ⟨z + 1, by omega, fun k hk => ?_, fun hz => ?_⟩
   ·
    cases k with
    | zero => exact e
    | succ k => have := h2 k (by omega); rwa [show i + 1 + k = i + (k + 1) by omega] at this
   ·
    have := h3 (by omega)
    rwa [show i + 1 + z = i + (z + 1) by omega] at this
  ·
   exact ⟨0, by omega, fun k hk => by omega, fun _ => e⟩
theorem Xzz {L : List Int} {i : Nat} : ∀ z : Nat, i + z ≤ L.length → (∀ k, k < z → L.getD (i + k) 0 = 48) → Xin ((L.drop i).take z) = 0
 | 0, _, _ => rfl
 | z + 1, h, hz => by rw [Xj1 (by omega), Xzz z (by omega) (fun k hk => hz k (by omega)), hz z (by omega)]; rfl
theorem Xzy {L : List Int} {i z w : Nat} (h : i + z + w ≤ L.length) (hz : ∀ k, k < z → L.getD (i + k) 0 = 48) : Xin ((L.drop i).take (z + w)) = Xin ((L.drop (i + z)).take w) := by
 induction w with
 | zero => rw [Nat.add_zero, Xzz z (by omega) hz]; rfl
 | succ w ih =>
  rw [← Nat.add_assoc, Xj1 (by omega), Xj1 (by omega), ih (by omega)]
  rw [Nat.add_assoc]
theorem Yeh {L : List Int} (hb : Xh0 L) {i w : Nat} (h : i + (w + 1) ≤ L.length) (h1 : L.getD i 0 = 49) : (2 : Int) ^ w ≤ Xin ((L.drop i).take (w + 1)) := by
 induction w with
 | zero => rw [Xj1 (by omega)]; simp only [Nat.add_zero]; rw [h1, show Xin ((L.drop i).take 0) = 0 from rfl]; decide
 | succ w ih =>
  have := ih (by omega)
  have := (Xp3 hb (i := i + (w + 1)) (by omega)).2
  rw [Xj1 (by omega), Int.pow_succ]
  omega
theorem Xzj (z : Nat) (h : z ≤ 21) : 0 ≤ Xah .u64 (z : Int) ∧ Xah .i64 (1 * 2 ^ min (Xah .u64 (z : Int)).toNat (IntKind.bits .i64)) = (2 : Int) ^ z := by
 have all : ∀ q : Fin 22, (0 ≤ Xah .u64 (q.val : Int) ∧ Xah .i64 (1 * 2 ^ min (Xah .u64 (q.val : Int)).toNat (IntKind.bits .i64)) = (2 : Int) ^ q.val) := by decide +kernel
 exact all ⟨z, by omega⟩
theorem Yb3 (s : ByteArray) (a : Int) : Xa6 ⟨s, a, true⟩ = some (0, ⟨s, a, true⟩) := by
 have h : Xck ⟨s, a, true⟩ 0 = some (.done 0) := rfl
 unfold Xa6
 rw [Xbw h, Xab]
 rfl
theorem Xj0 {L : List Int} (hb : Xh0 L) (hl : L.length ≤ 400000) (i : Nat) (hi : i ≤ L.length) :
  (∃ v j : Nat, Xay (strOfNums L) (i : Int) = some ((v : Int), (j : Int), true) ∧ Xa6 ⟨strOfNums L, (i : Int), false⟩ = some ((v : Int), ⟨strOfNums L, (j : Int), false⟩) ∧ v ≤ 1000000 ∧ i < j ∧ j ≤ L.length) ∨ (Xay (strOfNums L) (i : Int) = some (0, 0, false) ∧ ∃ a : Int, Xa6 ⟨strOfNums L, (i : Int), false⟩ = some (0, ⟨strOfNums L, a, true⟩)) := by
 obtain ⟨z, h1, h2, h3⟩ := Yb5 hb (L.length - i) i (by omega)
 have lI : loop (Xck ⟨strOfNums L, (i : Int), false⟩) 0 = some (z : Int) := by
  have key : ∀ k : Nat, k ≤ z → loop (Xck ⟨strOfNums L, (i : Int), false⟩) (k : Int) = some (z : Int) := by
   refine Xjn _ ?_ ?_
   ·
    refine Xbk ?_
    unfold Xck
    simp only
    rw [Xax, wk (e := (i : Int) + (z : Int)) (by omega) (by omega), strOfNums_size]
    by_cases hlt : i + z < L.length
    ·
     rw [Xaj (by omega), Xam (by omega), show (i : Int) + (z : Int) = ((i + z : Nat) : Int) by omega, (Xp3 hb hlt).1, h3 hlt, Xab]; rfl
    ·
     rw [Xat (by omega), Xab, Xax]
   ·
    intro k hk ih
    refine lgo ?_ ih
    unfold Xck
    simp only
    rw [Xax, wk (e := (i : Int) + (k : Int)) (by omega) (by omega), strOfNums_size, Xaj (by omega), Xam (by omega), show (i : Int) + (k : Int) = ((i + k : Nat) : Int) by omega, (Xp3 hb (by omega)).1, h2 k hk, Xab, wk (by omega) (by omega)]
    rfl
  exact key 0 (by omega)
 have lS : ∀ m : Nat, m = min z 21 → loop (Xcj (strOfNums L) (i : Int)) 0 = some (m : Int) := by
  intro m hm
  have key : ∀ k : Nat, k ≤ m → loop (Xcj (strOfNums L) (i : Int)) (k : Int) = some (m : Int) := by
   refine Xjn _ ?_ ?_
   ·
    refine Xbk ?_
    unfold Xcj
    rw [wk (e := (i : Int) + (m : Int)) (by omega) (by omega), strOfNums_size]
    by_cases hlt : i + m < L.length
    ·
     rw [Xaj (by omega), Xam (by omega), show (i : Int) + (m : Int) = ((i + m : Nat) : Int) by omega, (Xp3 hb hlt).1]
     by_cases hz : z ≤ 21
     ·
      have : m = z := by omega
      subst this
      rw [h3 hlt, Xbq (by rfl), Xab, Xax]
     ·
      have : m = 21 := by omega
      subst this
      rw [h2 21 (by omega), Xda (by rfl), decide_eq_false (by omega), Xab, Xax]
    ·
     rw [Xat (by omega), Xab, Xax]
   ·
    intro k hk ih
    refine lgo ?_ ih
    unfold Xcj
    rw [wk (e := (i : Int) + (k : Int)) (by omega) (by omega), strOfNums_size, Xaj (by omega), Xam (by omega), show (i : Int) + (k : Int) = ((i + k : Nat) : Int) by omega, (Xp3 hb (by omega)).1, h2 k (by omega), Xda (by rfl), decide_eq_true (by omega), Xab, Xaz, wk (by omega) (by omega)]
    rfl
  exact key 0 (by omega)
 unfold Xay Xa6
 rw [lI, Xab, lS _ rfl, Xab]
 simp only
 by_cases hz : z ≤ 20
 ·
  rw [show min z 21 = z by omega, Xat (by omega), Xab, wk (e := 2 * (z : Int)) (by omega) (by omega), wk (e := 2 * (z : Int) + 1) (by omega) (by omega), wk (e := (i : Int) + (z : Int)) (by omega) (by omega), wk (e := (z : Int) + 1) (by omega) (by omega), show (i : Int) + (z : Int) = ((i + z : Nat) : Int) by omega, show (z : Int) + 1 = ((z + 1 : Nat) : Int) by omega, show 2 * (z : Int) + 1 = ((z + (z + 1) : Nat) : Int) by omega, Xmq hb hl h1 (by omega), Xab]
  obtain ⟨p1, p2⟩ := Xzj z (by omega)
  by_cases hfit : i + z + (z + 1) ≤ L.length
  ·
   rw [if_pos hfit, Xs1 hb hl (by omega) (by omega), Xab, Xzy (by omega) h2]
   simp only
   have hge := Yeh hb (i := i + z) (w := z) (by omega) (h3 (by omega))
   have hpp : (1 : Int) ≤ 2 ^ z := Int.pow_pos (by omega)
   have hr := Xjj (l := (L.drop (i + z)).take (z + 1)) (fun x hx => hb x (List.mem_of_mem_drop (List.mem_of_mem_take hx)))
   have hp : (2 : Int) ^ ((L.drop (i + z)).take (z + 1)).length ≤ 1099511627776 := Xnz (by rw [List.length_take]; omega)
   generalize hq : Xin ((L.drop (i + z)).take (z + 1)) = q at *
   rw [Xaz, Xam p1, p2, Xat (by omega), wk (e := q - 1) (by omega) (by omega), Xab, Xax, Xab]
   by_cases hbig : q - 1 > 1000000
   ·
    rw [Xaj hbig, Xaj hbig]
    exact .inr ⟨rfl, _, rfl⟩
   ·
    rw [Xat hbig, Xat hbig]
    exact .inl ⟨(q - 1).toNat, i + z + (z + 1), by rw [show (((q - 1).toNat : Nat) : Int) = q - 1 by omega], by rw [show (((q - 1).toNat : Nat) : Int) = q - 1 by omega, show i + (z + (z + 1)) = i + z + (z + 1) by omega], by omega, by omega, by omega⟩
  ·
   rw [if_neg hfit]
   simp only
   rw [Xax, Xab, Xaz]
   refine .inr ⟨rfl, (i : Int), ?_⟩
   have : Xap ⟨strOfNums L, (i : Int), false⟩ ((z + (z + 1) : Nat) : Int) = some (0, ⟨strOfNums L, (i : Int), true⟩) := by
    unfold Xap
    simp only
    rw [Xax, strOfNums_size, wk (by omega) (by omega), Xab, Xaj (by omega)]
   rw [this, Xab]
   rfl
 ·
  have hm : min z 21 = 21 := by omega
  rw [hm, Xaj (by omega), Xab]
  refine .inr ⟨?_, (i : Int), ?_⟩
  ·
   rw [wk (e := (i : Int) + ((21 : Nat) : Int)) (by omega) (by omega), wk (e := ((21 : Nat) : Int) + 1) (by omega) (by omega), show (i : Int) + ((21 : Nat) : Int) = ((i + 21 : Nat) : Int) by omega, show ((21 : Nat) : Int) + 1 = ((22 : Nat) : Int) by omega, Xmq hb hl (by omega) (by omega), Xab]
   obtain ⟨p1, p2⟩ := Xzj 21 (by omega)
   by_cases hfit : i + 21 + 22 ≤ L.length
   ·
    rw [if_pos hfit]
    simp only
    rw [Xaz, Xam p1, p2]
    by_cases h21 : z = 21
    ·
     subst h21
     have hge : (2 : Int) ^ 21 ≤ Xin ((L.drop (i + 21)).take 22) := Yeh hb (i := i + 21) (w := 21) (by omega) (h3 (by omega))
     have hr := Xjj (l := (L.drop (i + 21)).take 22) (fun x hx => hb x (List.mem_of_mem_drop (List.mem_of_mem_take hx)))
     have hp : (2 : Int) ^ ((L.drop (i + 21)).take 22).length ≤ 1099511627776 := Xnz (by rw [List.length_take]; omega)
     have e21 : (2 : Int) ^ 21 = 2097152 := by decide
     rw [e21] at hge ⊢
     rw [Xat (by omega), wk (by omega) (by omega), decide_eq_true (by omega), Xab, Xaz]
    ·
     have hlt : Xin ((L.drop (i + 21)).take 22) < 2 ^ 21 := by
      have a := Xzy (L := L) (i := i + 21) (z := 1) (w := 21) (by omega) (fun k hk => by
       have : k = 0 := by omega
       subst this
       exact h2 21 (by omega))
      rw [show (1 + 21 : Nat) = 22 from rfl] at a
      have hr := Xjj (l := (L.drop (i + 21 + 1)).take 21) (fun x hx => hb x (List.mem_of_mem_drop (List.mem_of_mem_take hx)))
      rw [a]
      have : ((L.drop (i + 21 + 1)).take 21).length = 21 := by rw [List.length_take, List.length_drop]; omega
      rw [this] at hr
      exact hr.2
     rw [Xaj hlt, Xab, Xaz]
   ·
    rw [if_neg hfit]
    simp only
    rw [Xax, Xab, Xaz]
  ·
   have : ∀ w : Int, Xap ⟨strOfNums L, (i : Int), true⟩ w = some (0, ⟨strOfNums L, (i : Int), true⟩) := fun w => rfl
   rw [this, Xab]
   rfl
theorem Ydv (v : Nat) (hv : v ≤ 1000000) : ∃ n : Int, Xhn (v : Int) = some (n, true) ∧ Xhw (v : Int) = some (n, true) ∧ -500000 ≤ n ∧ n ≤ 500000 := by
 unfold Xhn Xhw
 rw [Xal, Xab, Xa7, Xab, decide_eq_true (by omega), Bool.not_true, Xax, Xax, Xam (by omega), Xam (by omega), Xlf (by omega)]
 by_cases h : (v : Int) % 2 = 1
 ·
  rw [Xda (by rw [beq_iff_eq]; exact h), Xda (by rw [beq_iff_eq]; exact h), Xam (by omega), wk (e := (v : Int) + 1) (by omega) (by omega), Xic (by omega), wk (by omega) (by omega)]
  exact ⟨_, rfl, rfl, by omega, by omega⟩
 ·
  rw [Xbq (by rw [beq_eq_false_iff_ne]; exact h), Xbq (by rw [beq_eq_false_iff_ne]; exact h), Xam (by omega), Xam (by omega), wk (e := 0 - (v : Int)) (by omega) (by omega)]
  have e1 : (0 - (v : Int)).tdiv 2 = -((v : Int) / 2) := by
   rw [show (0 - (v : Int)) = (-((v : Int) / 2)) * 2 by omega]
   exact Int.mul_tdiv_cancel _ (by omega)
  rw [e1, Xic (a := (v : Int)) (by omega), wk (e := (v : Int) / 2) (by omega) (by omega), wk (e := 0 - (v : Int) / 2) (by omega) (by omega), wk (e := -((v : Int) / 2)) (by omega) (by omega), show 0 - (v : Int) / 2 = -((v : Int) / 2) by omega]
  exact ⟨_, rfl, rfl, by omega, by omega⟩
theorem Ybx (s : ByteArray) (a : Int) : Xbm ⟨s, a, true⟩ = some (0, ⟨s, a, true⟩) := by
 unfold Xbm
 rw [Yb3, Xab]
 rfl
theorem Xt5 {L : List Int} (hb : Xh0 L) (hl : L.length ≤ 400000) (i : Nat) (hi : i ≤ L.length) :
  (∃ (n : Int) (j : Nat), Xbj (strOfNums L) (i : Int) = some (n, (j : Int), true) ∧ Xbm ⟨strOfNums L, (i : Int), false⟩ = some (n, ⟨strOfNums L, (j : Int), false⟩) ∧ (-500000 ≤ n ∧ n ≤ 500000) ∧ i < j ∧ j ≤ L.length) ∨ (Xbj (strOfNums L) (i : Int) = some (0, 0, false) ∧ ∃ a : Int, Xbm ⟨strOfNums L, (i : Int), false⟩ = some (0, ⟨strOfNums L, a, true⟩)) := by
 unfold Xbj Xbm
 rcases Xj0 hb hl i hi with ⟨v, j, e1, e2, h1, h2, h3⟩ | ⟨e1, a, e2⟩
 ·
  obtain ⟨n, o1, o2, o3, o4⟩ := Ydv v h1
  refine .inl ⟨n, j, ?_, ?_, ⟨o3, o4⟩, h2, h3⟩
  ·
   rw [e1, Xab]
   simp only
   rw [Bool.not_true, Xax, o2, Xab]
  ·
   rw [e2, Xab]
   simp only
   rw [o1, Xab]
   rfl
 ·
  refine .inr ⟨?_, a, ?_⟩
  ·
   rw [e1, Xab]; rfl
  ·
   rw [e2, Xab]; rfl
def Ycy (L : List Int) (N n pos : Nat) : Prop := pos ≤ N → N ≤ pos + n → ∀ (i : Nat) (l : List Int) (rem : Nat), i ≤ L.length → l.length = N → rem ≤ 1000000 →
  (∃ (j : Nat) (l' : List Int), (∀ (k : Nat) (q1 : Int × Int × Bool), q1.1 = ((k + rem : Nat) : Int) → k + rem ≤ 1000000 → loop (Xbr (strOfNums L) (N : Int) q1) ((i : Int), (pos : Int), (k : Int), l) = some (.out ((j : Int), l'))) ∧ loop (Xa4 (N : Int)) ((pos : Int), (rem : Int), strOfNums L, (i : Int), false, l) = some (l', strOfNums L, (j : Int), false) ∧ l'.length = N ∧ j ≤ L.length ∧ rem ≤ N - pos) ∨
  ((∀ (k : Nat) (q1 : Int × Int × Bool), q1.1 = ((k + rem : Nat) : Int) → k + rem ≤ 1000000 → loop (Xbr (strOfNums L) (N : Int) q1) ((i : Int), (pos : Int), (k : Int), l) = some (.ret ([], 0, false))) ∧ ∃ (l' : List Int) (a : Int), loop (Xa4 (N : Int)) ((pos : Int), (rem : Int), strOfNums L, (i : Int), false, l) = some (l', strOfNums L, a, true) ∧ l'.length = N)
theorem Xzo {L : List Int} (hb : Xh0 L) (hl : L.length ≤ 400000) (N : Nat) (hN : N ≤ 64) (n : Nat) (ih : ∀ n', n' + 1 = n → ∀ pos, Ycy L N n' pos) (pos : Nat) : Ycy L N n pos := by
 intro hp hn i l rem hi hll hrem
 cases rem with
 | zero =>
  refine .inl ⟨i, l, fun k q1 hq hk => Xbk ?_, Xbk ?_, hll, hi, by omega⟩
  ·
   unfold Xbr
   simp only
   rw [Xat (by omega)]
  ·
   unfold Xa4
   simp only
   rw [Xat (by omega), Xab, Xax]
 | succ r =>
  have sI : Xa4 (N : Int) ((pos : Int), ((r + 1 : Nat) : Int), strOfNums L, (i : Int), false, l) = bnd (Xa6 ⟨strOfNums L, (i : Int), false⟩) fun q17 => bnd (Xbm q17.2) fun q18 => bnd (sel (decide ((Xah .i64 ((pos : Int) + q17.1)) ≥ (N : Int))) (some true) (sel (q18.1 == 0) (some true) (bnd (Xaq q18.1 (-5000) 5000) fun q20 => some (!q20)))) fun v19 => sel v19 (some (.done (l, q18.2.row_, q18.2.at_, true))) (req (0 ≤ (Xah .i64 ((pos : Int) + q17.1)) ∧ (Xah .i64 ((pos : Int) + q17.1)) < l.length) <| req ((Xah .i64 ((pos : Int) + q17.1)).toNat < l.length) <| some (.go (Xah .i64 ((Xah .i64 ((pos : Int) + q17.1)) + 1), Xah .i64 (((r + 1 : Nat) : Int) - 1), q18.2.row_, q18.2.at_, q18.2.bad_, (l.set ((Xah .i64 ((pos : Int) + q17.1)).toNat) q18.1)))) := by
   unfold Xa4
   simp only
   rw [Xaj (by omega), Bool.not_false, Xab, Xaz]
  have sS : ∀ (k : Nat) (q1 : Int × Int × Bool), q1.1 = ((k + (r + 1) : Nat) : Int) → Xbr (strOfNums L) (N : Int) q1 ((i : Int), (pos : Int), (k : Int), l) = bnd (Xay (strOfNums L) (i : Int)) fun q17 => bnd (sel q17.2.2 (some (decide (q17.1 > (Xah .i64 ((Xah .i64 ((N : Int) - 1)) - (pos : Int)))))) (some true)) fun v18 => sel v18 (some (.done (.ret (([] : List Int), 0, false)))) (bnd (Xbj (strOfNums L) q17.2.1) fun q19 => bnd (sel q19.2.2 (sel (q19.1 == 0) (some true) (bnd (Xa9 q19.1 (-5000) 5000) fun q21 => some (!q21))) (some true)) fun v20 => sel v20 (some (.done (.ret (([] : List Int), 0, false)))) (req (0 ≤ (Xah .i64 ((pos : Int) + q17.1)) ∧ (Xah .i64 ((pos : Int) + q17.1)) < l.length) <| req ((Xah .i64 ((pos : Int) + q17.1)).toNat < l.length) <| some (.go (q19.2.1, Xah .i64 ((Xah .i64 ((pos : Int) + q17.1)) + 1), Xah .i64 ((k : Int) + 1), (l.set ((Xah .i64 ((pos : Int) + q17.1)).toNat) q19.1))))) := fun k q1 hq => by
   unfold Xbr
   simp only
   rw [Xaj (by omega)]
  rcases Xj0 hb hl i hi with ⟨v, j, e1, e2, h1, h2, h3⟩ | ⟨e1, a, e2⟩
  ·
   rw [e2, Xab] at sI
   simp only at sI
   have sS' := fun k q1 hq => (sS k q1 hq).trans (by rw [e1, Xab])
   simp only at sS'
   by_cases hge : pos + v ≥ N
   ·
    refine .inr ⟨fun k q1 hq hk => Xbk ((sS' k q1 hq).trans ?_), ?_⟩
    ·
     rw [Xaz, wk (e := (N : Int) - 1) (by omega) (by omega), wk (e := (N : Int) - 1 - pos) (by omega) (by omega), decide_eq_true (by omega), Xab, Xaz]
    ·
     rcases Xt5 hb hl j h3 with ⟨m, j2, _, f2, _⟩ | ⟨_, a, f2⟩
     ·
      refine ⟨l, (j2 : Int), Xbk (sI.trans ?_), hll⟩
      rw [f2, Xab, wk (e := (pos : Int) + v) (by omega) (by omega), Xaj (by omega), Xab, Xaz]
     ·
      refine ⟨l, a, Xbk (sI.trans ?_), hll⟩
      rw [f2, Xab, wk (e := (pos : Int) + v) (by omega) (by omega), Xaj (by omega), Xab, Xaz]
   ·
    have sS2 := fun k q1 hq => (sS' k q1 hq).trans (by rw [Xaz, wk (e := (N : Int) - 1) (by omega) (by omega), wk (e := (N : Int) - 1 - pos) (by omega) (by omega), decide_eq_false (by omega), Xab, Xax])
    rw [wk (e := (pos : Int) + v) (by omega) (by omega)] at sI
    rcases Xt5 hb hl j h3 with ⟨m, j2, f1, f2, f3, f4, f5⟩ | ⟨f1, a, f2⟩
    ·
     rw [f2, Xab, Xat (by omega)] at sI
     have sS3 := fun k q1 hq => (sS2 k q1 hq).trans (by rw [f1, Xab])
     simp only at sS3 sI
     by_cases hm : m = 0 ∨ ¬ (-5000 ≤ m ∧ m ≤ 5000)
     ·
      have hv : (sel (m == 0) (some true) (bnd (Xaq m (-5000) 5000) fun q20 => some (!q20))) = some true ∧ (sel true (sel (m == 0) (some true) (bnd (Xa9 m (-5000) 5000) fun q20 => some (!q20))) (some true)) = some true := by
       rw [Xaz, Xal, Xa7, Xab]
       rcases hm with h0 | h0
       ·
        rw [Xda (by rw [beq_iff_eq]; exact h0)]; exact ⟨rfl, rfl⟩
       ·
        rw [decide_eq_false h0]
        cases (m == 0) <;> exact ⟨rfl, rfl⟩
      refine .inr ⟨fun k q1 hq hk => Xbk ((sS3 k q1 hq).trans ?_), l, (j2 : Int), Xbk (sI.trans ?_), hll⟩
      ·
       rw [hv.2, Xab, Xaz]
      ·
       rw [hv.1, Xab, Xaz]
     ·
      have hm0 : m ≠ 0 := fun h => hm (.inl h)
      have hm1 : -5000 ≤ m ∧ m ≤ 5000 := Classical.byContradiction fun h => hm (.inr h)
      have hv : (sel (m == 0) (some true) (bnd (Xaq m (-5000) 5000) fun q20 => some (!q20))) = some false ∧ (sel true (sel (m == 0) (some true) (bnd (Xa9 m (-5000) 5000) fun q20 => some (!q20))) (some true)) = some false := by
       rw [Xaz, Xal, Xa7, Xab, Xbq (by rw [beq_eq_false_iff_ne]; exact hm0), decide_eq_true hm1]
       exact ⟨rfl, rfl⟩
      have gI : Xa4 (N : Int) ((pos : Int), ((r + 1 : Nat) : Int), strOfNums L, (i : Int), false, l) = some (.go (((pos + v + 1 : Nat) : Int), (r : Int), strOfNums L, (j2 : Int), false, l.set (pos + v) m)) := by
       rw [sI, hv.1, Xab, Xax, Xam (by omega), Xam (by omega), wk (by omega) (by omega), wk (by omega) (by omega), show ((r + 1 : Nat) : Int) - 1 = (r : Int) by omega, show ((pos : Int) + (v : Int)).toNat = pos + v by omega]
       rfl
      have gS : ∀ (k : Nat) (q1 : Int × Int × Bool), q1.1 = ((k + (r + 1) : Nat) : Int) → k + (r + 1) ≤ 1000000 → Xbr (strOfNums L) (N : Int) q1 ((i : Int), (pos : Int), (k : Int), l) = some (.go ((j2 : Int), ((pos + v + 1 : Nat) : Int), ((k + 1 : Nat) : Int), l.set (pos + v) m)) := fun k q1 hq hk => by
       refine (sS3 k q1 hq).trans ?_
       rw [hv.2, Xab, Xax, wk (e := (pos : Int) + v) (by omega) (by omega), Xam (by omega), Xam (by omega), wk (by omega) (by omega), wk (by omega) (by omega), show ((pos : Int) + (v : Int)).toNat = pos + v by omega]
       rfl
      have hR := ih (n - 1) (by omega) (pos + v + 1) (by omega) (by omega) j2 (l.set (pos + v) m) r f5 (by rw [List.length_set]; exact hll) (by omega)
      rcases hR with ⟨j3, l', r1, r2, r3, r4, r5⟩ | ⟨r1, l', a, r2, r3⟩
      ·
       exact .inl ⟨j3, l', fun k q1 hq hk => lgo (gS k q1 hq hk) (r1 (k + 1) q1 (by rw [hq]; omega) (by omega)), lgo gI r2, r3, r4, by omega⟩
      ·
       exact .inr ⟨fun k q1 hq hk => lgo (gS k q1 hq hk) (r1 (k + 1) q1 (by rw [hq]; omega) (by omega)), l', a, lgo gI r2, r3⟩
    ·
     refine .inr ⟨fun k q1 hq hk => Xbk ((sS2 k q1 hq).trans ?_), l, a, Xbk (sI.trans ?_), hll⟩
     ·
      rw [f1, Xab]; rfl
     ·
      rw [f2, Xab, Xat (by omega)]; rfl
  ·
   refine .inr ⟨fun k q1 hq hk => Xbk ((sS k q1 hq).trans ?_), l, a, Xbk (sI.trans ?_), hll⟩
   ·
    rw [e1, Xab]; rfl
   ·
    rw [e2, Xab]
    simp only
    rw [Ybx, Xab]
    simp only
    cases decide ((Xah .i64 ((pos : Int) + 0)) ≥ (N : Int)) <;> rfl
theorem Ygy {L : List Int} (hb : Xh0 L) (hl : L.length ≤ 400000) (N : Nat) (hN : N ≤ 64) : ∀ n pos : Nat, Ycy L N n pos := by
 intro n
 induction n with
 | zero => exact fun pos => Xzo hb hl N hN 0 (fun n' h => by omega) pos
 | succ n ih => exact fun pos => Xzo hb hl N hN (n + 1) (fun n' h pos => by
   have : n' = n := by omega
   subst this
   exact ih pos) pos
theorem Ybw (s : ByteArray) (a : Int) (N : Nat) (hN : N ≤ 64) : Xb4 ⟨s, a, true⟩ (N : Int) = some (List.replicate N 0, ⟨s, a, true⟩) := by
 unfold Xb4
 rw [Xam (by omega), Yb3, Xab]
 have h : ∀ l, Xa4 (N : Int) (0, 0, s, a, true, l) = some (.done (l, s, a, true)) := fun l => rfl
 simp only
 rw [Xbw (h _), Xab, Int.toNat_natCast]
theorem Xzl {L : List Int} (hb : Xh0 L) (hl : L.length ≤ 400000) (N : Nat) (hN : N ≤ 64) (i : Nat) (hi : i ≤ L.length) :
  (∃ (l : List Int) (j : Nat), Xee (strOfNums L) (i : Int) (N : Int) = some (l, (j : Int), true) ∧ Xb4 ⟨strOfNums L, (i : Int), false⟩ (N : Int) = some (l, ⟨strOfNums L, (j : Int), false⟩) ∧ l.length = N ∧ j ≤ L.length) ∨ (Xee (strOfNums L) (i : Int) (N : Int) = some ([], 0, false) ∧ ∃ (l : List Int) (a : Int), Xb4 ⟨strOfNums L, (i : Int), false⟩ (N : Int) = some (l, ⟨strOfNums L, a, true⟩) ∧ l.length = N) := by
 unfold Xee Xb4
 rw [Xam (by omega), Xam (by omega)]
 rcases Xj0 hb hl i hi with ⟨v, j, e1, e2, h1, h2, h3⟩ | ⟨e1, a, e2⟩
 ·
  rw [e1, Xab, e2, Xab]
  simp only
  rw [Xaz, Xab, Int.toNat_natCast]
  rcases Ygy hb hl N hN N 0 (by omega) (by omega) j (List.replicate N 0) v h3 (by simp) h1 with ⟨j3, l', r1, r2, r3, r4, r5⟩ | ⟨r1, l', a, r2, r3⟩
  ·
   have r1' := r1 0 ((v : Int), (j : Int), true) (by simp) (by omega)
   have r2' : loop (Xa4 (N : Int)) (0, (v : Int), strOfNums L, (j : Int), false, List.replicate N 0) = some (l', strOfNums L, (j3 : Int), false) := r2
   have r3' : loop (Xbr (strOfNums L) (N : Int) ((v : Int), (j : Int), true)) ((j : Int), 0, 0, List.replicate N 0) = some (.out ((j3 : Int), l')) := r1'
   rw [Xat (by omega), r2', r3', Xab, Xab]
   exact .inl ⟨l', j3, rfl, rfl, r3, r4⟩
  ·
   have r2' : loop (Xa4 (N : Int)) (0, (v : Int), strOfNums L, (j : Int), false, List.replicate N 0) = some (l', strOfNums L, a, true) := r2
   refine .inr ⟨?_, l', a, ?_, r3⟩
   ·
    by_cases hbig : (v : Int) > N
    ·
     rw [Xaj hbig]
    ·
     have r3' : loop (Xbr (strOfNums L) (N : Int) ((v : Int), (j : Int), true)) ((j : Int), 0, 0, List.replicate N 0) = some (.ret ([], 0, false)) := r1 0 ((v : Int), (j : Int), true) (by simp) (by omega)
     rw [Xat hbig, r3', Xab]
   ·
    rw [r2', Xab]
 ·
  refine .inr ⟨?_, List.replicate N 0, a, ?_, by simp⟩
  ·
   rw [e1, Xab]; rfl
  ·
   rw [e2, Xab]
   have h : ∀ l, Xa4 (N : Int) (0, 0, strOfNums L, a, true, l) = some (.done (l, strOfNums L, a, true)) := fun l => rfl
   simp only
   rw [Xbw (h _), Xab, Int.toNat_natCast]
theorem Yah (s : ByteArray) (a : Int) : ∀ n k : Nat, k + n = 4 → ∀ l : List Int, l.length = 16 * k → ∃ l' : List Int, loop Xa1 ((k : Int), s, a, true, l) = some (l', s, a, true) ∧ l'.length = 64
 | 0, k, hk, l, hl => ⟨l, Xbk (by unfold Xa1; simp only; rw [Xat (by omega)]), by omega⟩
 | n + 1, k, hk, l, hl => by
  have hm : maxLen = 9223372036854775807 := rfl
  obtain ⟨l', e, h⟩ := Yah s a n (k + 1) (by omega) (l ++ List.replicate 16 0) (by rw [List.length_append, List.length_replicate]; omega)
  refine ⟨l', lgo ?_ e, h⟩
  have := Ybw s a 16 (by omega)
  unfold Xa1
  simp only
  rw [Xaj (by omega)]
  refine (Xh1 this).trans ?_
  simp only
  rw [Xam (by simp only [List.length_replicate]; omega), wk (by omega) (by omega)]
  rfl
theorem Xpf (s : ByteArray) (a : Int) (c : Xmv) : ∃ l : List Int, Xbd ⟨s, a, true⟩ c = some (l, ⟨s, a, true⟩) ∧ l.length = 64 := by
 unfold Xbd
 rw [Xwy, Xab]
 by_cases h : (c.Large || c.Exact) = true
 ·
  rw [Xda h]
  have := Ybw s a 64 (by omega)
  exact ⟨_, (Xh1 this).trans rfl, by simp⟩
 ·
  rw [Xbq (by simpa using h)]
  obtain ⟨l', e, hl⟩ := Yah s a 4 0 rfl [] rfl
  exact ⟨l', (Xh1 e).trans rfl, hl⟩
theorem Ybj {L : List Int} (hb : Xh0 L) (hl : L.length ≤ 400000) : ∀ n k : Nat, k + n = 4 → ∀ (i : Nat) (l : List Int), i ≤ L.length → l.length = 16 * k →
  (∃ (l' : List Int) (j : Nat), loop (Xb7 (strOfNums L)) ((i : Int), (k : Int), l) = some (.out ((j : Int), l')) ∧ loop Xa1 ((k : Int), strOfNums L, (i : Int), false, l) = some (l', strOfNums L, (j : Int), false) ∧ l'.length = 64 ∧ j ≤ L.length) ∨
  (loop (Xb7 (strOfNums L)) ((i : Int), (k : Int), l) = some (.ret ([], 0, false)) ∧ ∃ (l' : List Int) (a : Int), loop Xa1 ((k : Int), strOfNums L, (i : Int), false, l) = some (l', strOfNums L, a, true) ∧ l'.length = 64)
 | 0, k, hk, i, l, hi, hll => .inl ⟨l, i, Xbk (by unfold Xb7; simp only; rw [Xat (by omega)]), Xbk (by unfold Xa1; simp only; rw [Xat (by omega)]), by omega, hi⟩
 | n + 1, k, hk, i, l, hi, hll => by
  have hm : maxLen = 9223372036854775807 := rfl
  rcases Xzl hb hl 16 (by omega) i hi with ⟨q, j, e1, e2, h1, h2⟩ | ⟨e1, q, a, e2, h1⟩
  ·
   have gI : Xa1 ((k : Int), strOfNums L, (i : Int), false, l) = some (.go (((k + 1 : Nat) : Int), strOfNums L, (j : Int), false, l ++ q)) := by
    unfold Xa1
    simp only
    rw [Xaj (by omega)]
    refine (Xh1 e2).trans ?_
    simp only
    rw [Xam (by omega), wk (by omega) (by omega)]
    rfl
   have gS : Xb7 (strOfNums L) ((i : Int), (k : Int), l) = some (.go ((j : Int), ((k + 1 : Nat) : Int), l ++ q)) := by
    unfold Xb7
    simp only
    rw [Xaj (by omega)]
    refine (Xh1 e1).trans ?_
    simp only
    rw [Bool.not_true, Xax, Xam (by omega), wk (by omega) (by omega)]
    rfl
   rcases Ybj hb hl n (k + 1) (by omega) j (l ++ q) h2 (by rw [List.length_append]; omega) with ⟨l', j', r1, r2, r3, r4⟩ | ⟨r1, l', a, r2, r3⟩
   ·
    exact .inl ⟨l', j', lgo gS r1, lgo gI r2, r3, r4⟩
   ·
    exact .inr ⟨lgo gS r1, l', a, lgo gI r2, r3⟩
  ·
   obtain ⟨l', r1, r2⟩ := Yah (strOfNums L) a n (k + 1) (by omega) (l ++ q) (by rw [List.length_append]; omega)
   refine .inr ⟨Xbk ?_, l', a, lgo ?_ r1, r2⟩
   ·
    unfold Xb7
    simp only
    rw [Xaj (by omega)]
    refine (Xh1 e1).trans ?_
    rfl
   ·
    unfold Xa1
    simp only
    rw [Xaj (by omega)]
    refine (Xh1 e2).trans ?_
    simp only
    rw [Xam (by omega), wk (by omega) (by omega)]
    rfl
theorem Xtr {L : List Int} (hb : Xh0 L) (hl : L.length ≤ 400000) (i : Nat) (hi : i ≤ L.length) (c : Xmv) :
  (∃ (l : List Int) (j : Nat), Xdf (strOfNums L) (i : Int) c = some (l, (j : Int), true) ∧ Xbd ⟨strOfNums L, (i : Int), false⟩ c = some (l, ⟨strOfNums L, (j : Int), false⟩) ∧ l.length = 64 ∧ j ≤ L.length) ∨
  (Xdf (strOfNums L) (i : Int) c = some ([], 0, false) ∧ ∃ (l : List Int) (a : Int), Xbd ⟨strOfNums L, (i : Int), false⟩ c = some (l, ⟨strOfNums L, a, true⟩) ∧ l.length = 64) := by
 unfold Xdf Xbd
 rw [Xwy, Xab, Xab]
 by_cases h : (c.Large || c.Exact) = true
 ·
  rw [Xda h, Xda h]
  rcases Xzl hb hl 64 (by omega) i hi with ⟨q, j, e1, e2, h1, h2⟩ | ⟨e1, q, a, e2, h1⟩
  ·
   exact .inl ⟨q, j, (Xh1 e1).trans rfl, (Xh1 e2).trans rfl, h1, h2⟩
  ·
   exact .inr ⟨(Xh1 e1).trans rfl, q, a, (Xh1 e2).trans rfl, h1⟩
 ·
  rw [Xbq (by simpa using h), Xbq (by simpa using h)]
  rcases Ybj hb hl 4 0 rfl i [] hi rfl with ⟨l', j', r1, r2, r3, r4⟩ | ⟨r1, l', a, r2, r3⟩
  ·
   exact .inl ⟨l', j', (Xh1 r1).trans rfl, (Xh1 r2).trans rfl, r3, r4⟩
  ·
   exact .inr ⟨(Xh1 r1).trans rfl, l', a, (Xh1 r2).trans rfl, r3⟩
theorem Xw0 (s : ByteArray) (a : Int) (c : Xmv) : ∃ (q : Xas) (a' : Int), Xby ⟨s, a, true⟩ c = some (q, ⟨s, a', true⟩) := by
 unfold Xby
 cases hK : c.Key with
 | true => exact ⟨_, _, rfl⟩
 | false =>
  simp only
  rw [Bool.not_false, Xaz, Yb3, Xab, Xab]
  exact ⟨_, _, rfl⟩
theorem Yaz {L : List Int} (hb : Xh0 L) (hl : L.length ≤ 400000) (i : Nat) (hi : i ≤ L.length) (c : Xmv) :
  (∃ (q : Xas) (j : Nat), Xfi (strOfNums L) (i : Int) c = some (q, (j : Int), true) ∧ Xby ⟨strOfNums L, (i : Int), false⟩ c = some (q, ⟨strOfNums L, (j : Int), false⟩) ∧ q.Levels.length ≤ 64 ∧ j ≤ L.length ∧ Yeb q = true ∧ Xzs q c = true) ∨
  (Xfi (strOfNums L) (i : Int) c = some (⟨0, 0, 0, 0, []⟩, 0, false) ∧ ∃ (q : Xas) (a : Int), Xby ⟨strOfNums L, (i : Int), false⟩ c = some (q, ⟨strOfNums L, a, true⟩)) := by
 -- the kind
 have tail : ∀ (kd : Int) (i1 : Nat), i1 ≤ L.length → (0 ≤ kd ∧ kd ≤ 2) → (c.Key = true → kd = 2) → ∀ (x y : Option (Xas × Int × Bool)) (z : Option (Xas × Xf2)),
   x = (sel (kd == 0) (some ((⟨kd, 0, 0, 0, []⟩ : Xas), (i1 : Int), true)) (sel (kd == 1) (bnd (Xbj (strOfNums L) i1) fun q5 => sel (!q5.2.2) (some ((⟨0, 0, 0, 0, []⟩ : Xas), 0, false)) (bnd (Xbj (strOfNums L) q5.2.1) fun q6 => (sel (!q6.2.2) (some ((⟨0, 0, 0, 0, []⟩ : Xas), 0, false)) (bnd (Xdf (strOfNums L) q6.2.1 c) fun q8 => bnd (sel q8.2.2 (bnd (Xdn (⟨kd, 0, q5.1, q6.1, q8.1⟩ : Xas)) fun q10 => some (!q10)) (some true)) fun v9 => sel v9 (some ((⟨0, 0, 0, 0, []⟩ : Xas), 0, false)) (some ((⟨kd, 0, q5.1, q6.1, q8.1⟩ : Xas), q8.2.1, true)))))) (bnd (Xay (strOfNums L) i1) fun q7 => (sel (!q7.2.2) (some ((⟨0, 0, 0, 0, []⟩ : Xas), 0, false)) (bnd (Xdf (strOfNums L) q7.2.1 c) fun q8 => bnd (sel q8.2.2 (bnd (Xdn (⟨kd, q7.1, 0, 0, q8.1⟩ : Xas)) fun q10 => some (!q10)) (some true)) fun v9 => sel v9 (some ((⟨0, 0, 0, 0, []⟩ : Xas), 0, false)) (some ((⟨kd, q7.1, 0, 0, q8.1⟩ : Xas), q8.2.1, true))))))) →
   z = (bnd (sel (kd == 1) (bnd (Xbm (⟨strOfNums L, (i1 : Int), false⟩ : Xf2)) fun q4 => bnd (Xbm q4.2) fun q5 => bnd (Xbd q5.2 c) fun q6 => some (q6.2.row_, q6.2.at_, q6.2.bad_, (0 : Int), q4.1, q5.1, q6.1)) (sel (kd == 2) (bnd (Xa6 (⟨strOfNums L, (i1 : Int), false⟩ : Xf2)) fun q7 => bnd (Xbd q7.2 c) fun q8 => some (q8.2.row_, q8.2.at_, q8.2.bad_, q7.1, 0, 0, q8.1)) (some (strOfNums L, (i1 : Int), false, 0, 0, 0, [])))) fun v3 => bnd (sel v3.2.2.1 (some true) (bnd (Xek (⟨kd, v3.2.2.2.1, v3.2.2.2.2.1, v3.2.2.2.2.2.1, v3.2.2.2.2.2.2⟩ : Xas)) fun q10 => some (!q10))) fun v9 => some ((⟨kd, v3.2.2.2.1, v3.2.2.2.2.1, v3.2.2.2.2.2.1, v3.2.2.2.2.2.2⟩ : Xas), (⟨v3.1, v3.2.1, v9⟩ : Xf2))) →
   (∃ (q : Xas) (j : Nat), x = some (q, (j : Int), true) ∧ z = some (q, ⟨strOfNums L, (j : Int), false⟩) ∧ q.Levels.length ≤ 64 ∧ j ≤ L.length ∧ Yeb q = true ∧ Xzs q c = true) ∨ (x = some (⟨0, 0, 0, 0, []⟩, 0, false) ∧ ∃ (q : Xas) (a : Int), z = some (q, ⟨strOfNums L, a, true⟩)) := by
  intro kd i1 hi1 hkd hkey x _ z hx hz
  subst hx; subst hz
  obtain h0 | h1 | h2 : kd = 0 ∨ kd = 1 ∨ kd = 2 := by omega
  ·
   subst h0
   exact .inl ⟨⟨0, 0, 0, 0, []⟩, i1, rfl, rfl, by simp, hi1, rfl, by
    unfold Xzs
    cases hK : c.Key with
    | false => rfl
    | true => exact absurd (hkey hK) (by decide)⟩
  ·
   subst h1
   have hlet : ∀ q : Xas, q.Kind = 1 → Xzs q c = true := fun q hq => by
    unfold Xzs
    cases hK : c.Key with
    | false => rfl
    | true => exact absurd (hkey hK) (by decide)
   rw [Xbq (b := ((1 : Int) == 0)) (by rfl), Xda (b := ((1 : Int) == 1)) (by rfl), Xda (b := ((1 : Int) == 1)) (by rfl)]
   rcases Xt5 hb hl i1 hi1 with ⟨dx, j, e1, e2, h1, h2, h3⟩ | ⟨e1, a, e2⟩
   ·
    rw [e1, Xab, e2, Xab]
    simp only
    rw [Bool.not_true, Xax]
    rcases Xt5 hb hl j h3 with ⟨dy, j2, f1, f2, g1, g2, g3⟩ | ⟨f1, a, f2⟩
    ·
     rw [f1, Xab, f2, Xab]
     simp only
     rw [Bool.not_true, Xax]
     rcases Xtr hb hl j2 g3 c with ⟨lv, j3, k1, k2, k3, k4⟩ | ⟨k1, lv, a, k2, k3⟩
     ·
      rw [k1, Xab, k2, Xab, Xab]
      simp only
      rw [Xaz, Xax, Xj8, Xab, Xg3 _ (by simp only; omega), Xab, Xab, Xab]
      cases hq : Yeb ⟨1, 0, dx, dy, lv⟩ with
      | true => exact .inl ⟨_, j3, rfl, rfl, by simp only; omega, k4, hq, hlet _ rfl⟩
      | false => exact .inr ⟨rfl, _, _, rfl⟩
     ·
      rw [k1, Xab, k2, Xab, Xab]
      exact .inr ⟨rfl, _, _, rfl⟩
    ·
     rw [f1, Xab, f2, Xab]
     obtain ⟨lv, k2, _⟩ := Xpf (strOfNums L) a c
     simp only
     rw [k2, Xab, Xab]
     exact .inr ⟨rfl, _, _, rfl⟩
   ·
    rw [e1, Xab, e2, Xab]
    obtain ⟨lv, k2, _⟩ := Xpf (strOfNums L) a c
    simp only
    rw [Ybx, Xab]
    simp only
    rw [k2, Xab, Xab]
    exact .inr ⟨rfl, _, _, rfl⟩
  ·
   subst h2
   have hlet : ∀ q : Xas, q.Kind = 2 → Xzs q c = true := fun q hq => by
    unfold Xzs
    rw [hq]
    cases c.Key <;> rfl
   rw [Xbq (b := ((2 : Int) == 0)) (by rfl), Xbq (b := ((2 : Int) == 1)) (by rfl), Xbq (b := ((2 : Int) == 1)) (by rfl), Xda (b := ((2 : Int) == 2)) (by rfl)]
   rcases Xj0 hb hl i1 hi1 with ⟨m, j2, f1, f2, g1, g2, g3⟩ | ⟨f1, a, f2⟩
   ·
    rw [f1, Xab, f2, Xab]
    simp only
    rw [Bool.not_true, Xax]
    rcases Xtr hb hl j2 g3 c with ⟨lv, j3, k1, k2, k3, k4⟩ | ⟨k1, lv, a, k2, k3⟩
    ·
     rw [k1, Xab, k2, Xab, Xab]
     simp only
     rw [Xaz, Xax, Xj8, Xab, Xg3 _ (by simp only; omega), Xab, Xab, Xab]
     cases hq : Yeb ⟨2, (m : Int), 0, 0, lv⟩ with
     | true => exact .inl ⟨_, j3, rfl, rfl, by simp only; omega, k4, hq, hlet _ rfl⟩
     | false => exact .inr ⟨rfl, _, _, rfl⟩
    ·
     rw [k1, Xab, k2, Xab, Xab]
     exact .inr ⟨rfl, _, _, rfl⟩
   ·
    rw [f1, Xab, f2, Xab]
    obtain ⟨lv, k2, _⟩ := Xpf (strOfNums L) a c
    simp only
    rw [k2, Xab, Xab]
    exact .inr ⟨rfl, _, _, rfl⟩
 unfold Xfi Xby
 simp only [Xta]
 cases hK : c.Key with
 | true =>
  rw [Bool.not_true, Xax, Xax, Xab]
  simp only
  rw [Xax]
  exact tail 2 i hi (by omega) (fun _ => rfl) _ none _ rfl rfl
 | false =>
  rw [Bool.not_false, Xaz, Xaz]
  rcases Xj0 hb hl i hi with ⟨v, j, e1, e2, h1, h2, h3⟩ | ⟨e1, a, e2⟩
  ·
   rw [e1, Xab, e2, Xab, Xab]
   simp only
   rw [Xaz, Xab]
   by_cases hv : (v : Int) > 2
   ·
    rw [Xaj hv]
    rw [Xax, Xbq (b := (v : Int) == 1) (by rw [beq_eq_false_iff_ne]; omega), Xbq (b := (v : Int) == 2) (by rw [beq_eq_false_iff_ne]; omega), Xab]
    simp only
    have hq : Yeb ⟨(v : Int), 0, 0, 0, []⟩ = false := by
     unfold Yeb
     rw [if_neg (by simp only; omega), if_neg (by simp only; omega), if_neg (by simp only; omega)]
    rw [Xax, Xg3 _ (by simp), Xab, hq]
    exact .inr ⟨trivial, _, _, rfl⟩
   ·
    rw [Xat hv, Xax]
    exact tail v j h3 (by omega) (fun h => by rw [hK] at h; cases h) _ none _ rfl rfl
  ·
   rw [e1, Xab, e2, Xab, Xab]
   exact .inr ⟨rfl, _, _, rfl⟩
theorem Xjf (s : ByteArray) : (∃ L : List Int, s = strOfNums L ∧ Xh0 L ∧ L.length ≤ 400000 ∧ Xfc s = some true ∧ Xer s = some true) ∨ (Xfc s = some false ∧ Xer s = some false) := by
 have hf : Xej s = Xb5 s := rfl
 unfold Xfc Xer
 by_cases hs : s.size ≤ 400000
 ·
  rw [Xat (by omega), Xaj (by omega), hf]
  unfold Xgf
  have hl := Xw7 (fun x => x == 48 || x == 49) (Xde s) (Xb5 s) (by
   intro i hi
   rw [Xcf] at hi
   unfold Xb5
   rw [Xaj (by omega), Xam (by omega), Xam (by omega), Yal s i hi, wk (by omega) (by omega)]
   generalize Xhd s i = x
   cases h1 : (x == 48) <;> cases h2 : (x == 49) <;> simp only [bne, h1, h2, sel, bnd, Bool.not_true, Bool.not_false, Bool.or_false, Bool.or_true, Bool.true_or] <;> rfl) (by
   rw [Xcf]
   unfold Xb5
   rw [Xat (by omega)])
  rw [hl]
  by_cases hall : (Xde s).all (fun x => x == 48 || x == 49) = true
  ·
   rw [if_pos hall]
   refine .inl ⟨Xde s, (Xpx s).symm, fun x hx => ?_, by rw [Xcf]; exact hs, rfl, rfl⟩
   have := List.all_eq_true.1 hall x hx
   simpa using this
  ·
   rw [if_neg hall]
   exact .inr ⟨rfl, rfl⟩
 ·
  rw [Xaj (by omega), Xat (by omega)]
  exact .inr ⟨rfl, rfl⟩
theorem Xzx {L : List Int} (hb : Xh0 L) (hl : L.length ≤ 400000) (N : Nat) (hN : N ≤ 64) (c : Xmv) (hc : Xlv c = true) : ∀ n k : Nat, k + n = N → ∀ (i : Nat) (l : List Xas), i ≤ L.length → l.length = k → (∀ q ∈ l, q.Levels.length ≤ 64) → Yea l c = true →
  (∃ (l' : List Xas) (j : Nat), loop (Xbi (strOfNums L) (N : Int) c) ((i : Int), (k : Int), l) = some (.out ((j : Int), l')) ∧ loop (Xa0 (N : Int) c) ((k : Int), strOfNums L, (i : Int), false, l) = some (.out (strOfNums L, (j : Int), false, l')) ∧ l'.length = N ∧ (∀ q ∈ l', q.Levels.length ≤ 64) ∧ Yea l' c = true) ∨
  (loop (Xbi (strOfNums L) (N : Int) c) ((i : Int), (k : Int), l) = some (.ret ([], false)) ∧ loop (Xa0 (N : Int) c) ((k : Int), strOfNums L, (i : Int), false, l) = some (.ret ([], false)))
 | 0, k, hk, i, l, hi, hll, hq, hs => .inl ⟨l, i, Xbk (by unfold Xbi; simp only; rw [Xat (by omega)]), Xbk (by unfold Xa0; simp only; rw [Xat (by omega)]), by omega, hq, hs⟩
 | n + 1, k, hk, i, l, hi, hll, hq, hs => by
  have hm : maxLen = 9223372036854775807 := rfl
  rcases Yaz hb hl i hi c with ⟨q, j, e1, e2, h1, h2, h3, h4⟩ | ⟨e1, q, a, e2⟩
  ·
   have gI : Xa0 (N : Int) c ((k : Int), strOfNums L, (i : Int), false, l) = some (.go (((k + 1 : Nat) : Int), strOfNums L, (j : Int), false, l ++ [q])) := by
    unfold Xa0
    simp only
    rw [Xaj (by omega), e2, Xab]
    simp only
    rw [Xam (by simp only [List.length_singleton]; omega), Xax, wk (by omega) (by omega)]
    rfl
   have gS : Xbi (strOfNums L) (N : Int) c ((i : Int), (k : Int), l) = some (.go ((j : Int), ((k + 1 : Nat) : Int), l ++ [q])) := by
    unfold Xbi
    simp only
    rw [Xaj (by omega), e1, Xab]
    simp only
    rw [Bool.not_true, Xax, Xam (by simp only [List.length_singleton]; omega), wk (by omega) (by omega)]
    rfl
   have hq' : ∀ x ∈ l ++ [q], x.Levels.length ≤ 64 := fun x hx => by
    rcases List.mem_append.1 hx with h | h
    ·
     exact hq x h
    ·
     rw [List.mem_singleton.1 h]; exact h1
   have hs' : Yea (l ++ [q]) c = true := by
    unfold Yea at hs ⊢
    rw [List.all_append, hs, Bool.true_and, List.all_cons, h3, hc, h4]; rfl
   rcases Xzx hb hl N hN c hc n (k + 1) (by omega) j (l ++ [q]) h2 (by rw [List.length_append, hll]; rfl) hq' hs' with ⟨l', j', r1, r2, r3⟩ | ⟨r1, r2⟩
   ·
    exact .inl ⟨l', j', lgo gS r1, lgo gI r2, r3⟩
   ·
    exact .inr ⟨lgo gS r1, lgo gI r2⟩
  ·
   refine .inr ⟨Xbk ?_, Xbk ?_⟩
   ·
    unfold Xbi
    simp only
    rw [Xaj (by omega), e1, Xab]
    rfl
   ·
    unfold Xa0
    simp only
    rw [Xaj (by omega), e2, Xab]
    simp only
    rw [Xam (by simp only [List.length_singleton]; omega), Xaz]
def Yhh (n : Int) (c : Xmv) (l : List Xas) : Prop := Xlv c = true ∧ (1 ≤ n ∧ n ≤ 64) ∧ (l.length : Int) = n ∧ Yea l c = true
theorem Xw4 (s : ByteArray) (a n : Int) (c : Xmv) : ∃ (l : List Xas) (b : Bool), Xfk s a n c = some (l, b) ∧ Xfw s a n c = some (l, b) ∧ l.length ≤ 64 ∧ (∀ q ∈ l, q.Levels.length ≤ 64) ∧ (b = true → Yhh n c l) := by
 have hm : maxLen = 9223372036854775807 := rfl
 have fin : ∀ {x y : Option (List Xas × Bool)}, x = some ([], false) → y = some ([], false) → ∃ (l : List Xas) (b : Bool), x = some (l, b) ∧ y = some (l, b) ∧ l.length ≤ 64 ∧ (∀ q ∈ l, q.Levels.length ≤ 64) ∧ (b = true → Yhh n c l) := fun h1 h2 => ⟨[], false, h1, h2, by simp, fun q hq => by simp at hq, fun h => by cases h⟩
 unfold Xfk Xfw Xc4
 by_cases hn : 1 ≤ n ∧ n ≤ 64
 ·
  by_cases hc : Xlv c = true
  case neg =>
   have hc : Xlv c = false := by simpa using hc
   refine fin ?_ ?_
   ·
    rcases Xjf s with ⟨L, _, _, _, r1, _⟩ | ⟨r1, _⟩
    ·
     rw [r1, Xab, Xaz, Xal, Xab, Xab, Xab, Xal, Xab, decide_eq_true hn, Xaz, Xgk, Xab, hc, Xab]; rfl
    ·
     rw [r1, Xab, Xax, Xab, Xab, Xal, Xab, decide_eq_true hn, Xaz, Xgk, Xab, hc, Xab]; rfl
   ·
    rcases Xjf s with ⟨L, _, _, _, _, r1⟩ | ⟨_, r1⟩
    ·
     rw [r1, Xab, Xaz, Xa7, Xab, Xim, Xab, hc, Xax]
     cases decide (0 ≤ a ∧ a ≤ (s.size : Int)) <;> rfl
    ·
     rw [r1, Xab, Xax, Xab, Xaz]
  case pos =>
   rcases Xjf s with ⟨L, hL, hb, hl, r1, r2⟩ | ⟨r1, r2⟩
   ·
    rw [r1, r2, Xab, Xab, Xaz, Xaz, Xal, Xab, Xa7, Xab, Xab, Xab, Xal, Xab, decide_eq_true hn, Xaz, Xgk, Xab, hc, Xab, Xim, Xab, hc, Xaz, Xa7, Xab, decide_eq_true hn]
    by_cases ha : 0 ≤ a ∧ a ≤ (s.size : Int)
    ·
     rw [decide_eq_true ha]
     simp only [Bool.not_true, Xax, Xaz, Xab]
     subst hL
     rw [strOfNums_size] at ha ⊢
     obtain ⟨i, rfl⟩ : ∃ i : Nat, a = i := ⟨a.toNat, by omega⟩
     obtain ⟨N, rfl⟩ : ∃ N : Nat, n = N := ⟨n.toNat, by omega⟩
     rcases Xzx hb hl N (by omega) c hc N 0 (by omega) i [] (by omega) rfl (fun q hq => by simp at hq) rfl with ⟨l', j, k1, k2, k3, k4, k5⟩ | ⟨k1, k2⟩
     ·
      have k1' : loop (Xbi (strOfNums L) (N : Int) c) ((i : Int), 0, []) = some (.out ((j : Int), l')) := k1
      have k2' : loop (Xa0 (N : Int) c) (0, strOfNums L, (i : Int), false, []) = some (.out (strOfNums L, (j : Int), false, l')) := k2
      rw [k1', k2', Xab, Xab]
      simp only
      by_cases hj : (j : Int) = (L.length : Int)
      ·
       rw [Xbq (by rw [bne_eq_false_iff_eq]; exact hj)]
       exact ⟨l', true, rfl, rfl, by omega, k4, fun _ => ⟨hc, hn, by omega, k5⟩⟩
      ·
       rw [Xda (by rw [bne_iff_ne]; exact hj)]
       exact fin rfl rfl
     ·
      have k1' : loop (Xbi (strOfNums L) (N : Int) c) ((i : Int), 0, []) = some (.ret ([], false)) := k1
      have k2' : loop (Xa0 (N : Int) c) (0, strOfNums L, (i : Int), false, []) = some (.ret ([], false)) := k2
      rw [k1', k2', Xab, Xab]
      exact fin rfl rfl
    ·
     rw [decide_eq_false ha]
     simp only [Bool.not_true, Bool.not_false, Xax, Xaz, Xab]
     obtain ⟨q, a', eq⟩ := Xw0 s a c
     have hd : Xa0 n c (0, s, a, true, []) = some (.done (.ret ([], false))) := by
      unfold Xa0
      simp only
      rw [Xaj (by omega), eq, Xab]
      simp only
      rw [Xam (by simp only [List.length_singleton, List.length_nil]; omega), Xaz]
     rw [Xbw hd, Xab]
     exact fin rfl rfl
   ·
    refine fin ?_ ?_
    ·
     rw [r1, Xab, Xax, Xab, Xab, Xal, Xab, decide_eq_true hn, Xaz, Xgk, Xab, hc, Xab, Bool.not_true, Xax]
     simp only
     obtain ⟨q, a', eq⟩ := Xw0 s a c
     have hd : Xa0 n c (0, s, a, true, []) = some (.done (.ret ([], false))) := by
      unfold Xa0
      simp only
      rw [Xaj (by omega), eq, Xab]
      simp only
      rw [Xam (by simp only [List.length_singleton, List.length_nil]; omega), Xaz]
     rw [Xbw hd, Xab]
    ·
     rw [r2, Xab, Xax, Xab, Xaz]
 ·
  refine fin ?_ ?_
  ·
   rcases Xjf s with ⟨L, _, _, _, r1, _⟩ | ⟨r1, _⟩
   ·
    rw [r1, Xab, Xaz, Xal, Xab, Xab, Xab, Xal, Xab, decide_eq_false hn, Xax, Xab, Xaz]
   ·
    rw [r1, Xab, Xax, Xab, Xab, Xal, Xab, decide_eq_false hn, Xax, Xab, Xaz]
  ·
   rcases Xjf s with ⟨L, _, _, _, _, r1⟩ | ⟨_, r1⟩
   ·
    rw [r1, Xab, Xaz, Xa7, Xab, Xim, Xab, Xa7, Xab, decide_eq_false hn]
    cases decide (0 ≤ a ∧ a ≤ (s.size : Int)) <;> cases Xlv c <;> rfl
   ·
    rw [r1, Xab, Xax, Xab, Xaz]
theorem Xz1 (p : Par) (t : Xhz) (n : Int) : ∃ b : Bool, Xf4 p t n = some b ∧ Xgd p t n = some b := by
 obtain ⟨l, b, e1, e2, _⟩ := Xw4 t.Row 0 n ⟨t.Key, t.Qp, p.Large, p.Exact⟩
 unfold Xf4 Xgd Xh4 Xib
 rw [Xab, Xab, e1, e2, Xab, Xab, Xcx, Xcg, Xab, Xab]
 cases b <;> cases Xh2 p <;> exact ⟨_, rfl, rfl⟩
def Xxa (s : ByteArray) (i : Nat) : Int := 48 + (Xhd s ((i / 8 : Nat) : Int) / 2 ^ (7 - i % 8)) % 2
def Xip (s : ByteArray) : List Int := (List.range (8 * s.size)).map (Xxa s)
theorem Ye2 : ∀ b : Fin 256, Yek 8 (b.val : Int) = (List.range 8).map fun k => 48 + ((b.val : Int) / 2 ^ (7 - k)) % 2 := by decide +kernel
theorem Yi5 (b : Int) (h : 0 ≤ b ∧ b ≤ 255) : Yek 8 b = (List.range 8).map fun k => 48 + (b / 2 ^ (7 - k)) % 2 := by
 have := Ye2 ⟨b.toNat, by omega⟩
 simp only at this
 rwa [show ((b.toNat : Nat) : Int) = b by omega] at this
theorem Yc8 (s : ByteArray) (i : Nat) : Xxa s i = 48 ∨ Xxa s i = 49 := by unfold Xxa; omega
theorem Yb8 (s : ByteArray) : Xh0 (Xip s) := fun x hx => by
 obtain ⟨i, _, rfl⟩ := List.mem_map.1 hx
 exact Yc8 s i
theorem Yb9 (s : ByteArray) : (Xip s).length = 8 * s.size := by simp [Xip]
theorem Yc9 (s : ByteArray) {i : Nat} (h : i < 8 * s.size) : (Xip s).getD i 0 = Xxa s i := Ye8 _ h
theorem Yap (f : Nat → Int) (n : Nat) : (List.range (8 * n)).map f ++ (List.range 8).map (fun k => f (8 * n + k)) = (List.range (8 * (n + 1))).map f := by
 rw [show 8 * (n + 1) = 8 * n + 8 by omega, List.range_add, List.map_append, List.map_map]
 rfl
theorem Xm1 (s : ByteArray) (hs : s.size ≤ 50001) : loop (Xcv s) (0, []) = some (Xip s) := by
 have hm : maxLen = 9223372036854775807 := rfl
 obtain ⟨o, e, ho⟩ := Yg3 (f := Xcv s) s.size (fun i l => l = (List.range (8 * i)).map (Xxa s)) (by
  intro i l hi g
  subst g
  have hb := Xr6 s i
  unfold Xcv
  simp only
  rw [Xaj (by omega), Xam (by omega), wk (e := Xhd s i) (by omega) (by omega), show (8 : Int) = ((8 : Nat) : Int) from rfl, Xwf _ 8 hb.1 (by omega) (by omega), Xab, Yfb _ (Xkj (Ya7 _ _)), Xam (by simp only [Ya8, List.length_map, List.length_range]; omega), wk (e := (i : Int) + 1) (by omega) (by omega)]
  refine ⟨_, rfl, ?_⟩
  rw [← Yap, Yi5 _ hb]
  congr 1
  refine List.map_congr_left fun k hk => ?_
  have hk8 := List.mem_range.1 hk
  unfold Xxa
  rw [show (8 * i + k) / 8 = i by omega, show (8 * i + k) % 8 = k by omega]) (by intro l; unfold Xcv; rw [Xat (by simp)]) [] rfl
 rw [e, ho]; rfl
theorem Yb7 : ∀ b : Fin 256, ∀ k : Fin 8, Xah .u8 (48 + (IntKind.wrap .u8 (BitVec.ofInt (IntKind.bits .u8) ((b.val : Int) / 2 ^ min (k.val) (IntKind.bits .u8)) &&& BitVec.ofInt (IntKind.bits .u8) 1).toNat)) = 48 + ((b.val : Int) / 2 ^ k.val) % 2 := by decide +kernel
theorem Yhl (b : Int) (h : 0 ≤ b ∧ b ≤ 255) (k : Nat) (hk : k < 8) : Xah .u8 (48 + (IntKind.wrap .u8 (BitVec.ofInt (IntKind.bits .u8) (b / 2 ^ min k (IntKind.bits .u8)) &&& BitVec.ofInt (IntKind.bits .u8) 1).toNat)) = 48 + (b / 2 ^ k) % 2 := by
 have := Yb7 ⟨b.toNat, by omega⟩ ⟨k, hk⟩
 simp only at this
 rwa [show ((b.toNat : Nat) : Int) = b by omega] at this
theorem Xm0 (s : ByteArray) (hs : s.size ≤ 50001) : loop (Xct s) (0, []) = some (Xip s) := by
 have hm : maxLen = 9223372036854775807 := rfl
 have := Yew (f := Xct s) (8 * s.size) (Xxa s) [] (by
  intro i hi
  have hb := Xr6 s ((i / 8 : Nat) : Int)
  unfold Xct
  simp only
  rw [wk (e := 8 * (s.size : Int)) (by omega) (by omega), Xaj (by omega), Xam (by omega), Xic (by omega), wk (e := (i : Int) / 8) (by omega) (by omega), Xam (by omega), Xam (by omega), Xlf (by omega), wk (e := 7 - (i : Int) % 8) (by omega) (by omega), Xam (by omega), show (7 - (i : Int) % 8).toNat = 7 - i % 8 by omega, show (i : Int) / 8 = ((i / 8 : Nat) : Int) by omega, Yhl _ hb (7 - i % 8) (by omega), Xam (by simp only [List.length_append, List.length_nil, List.length_map, List.length_range, List.length_singleton]; omega), wk (e := (i : Int) + 1) (by omega) (by omega)]
  rfl) (by unfold Xct; rw [wk (e := 8 * (s.size : Int)) (by omega) (by omega), Xat (by simp)])
 rw [List.nil_append] at this
 exact this
theorem Ybd {V : List Int} (hV : Xh0 V) : ∀ n : Nat, n ≤ V.length → (∃ j, j < n ∧ V.getD j 0 = 49) → ∃ k, k + 1 ≤ n ∧ V.getD k 0 = 49 ∧ ∀ j, k + 1 ≤ j → j < n → V.getD j 0 = 48
 | 0, _, ⟨j, h, _⟩ => by omega
 | n + 1, hn, ⟨j, hj, h⟩ => by
  rcases hV (V.getD n 0) (by rw [Xie V n (by omega)]; exact List.getElem_mem _) with e | e
  ·
   have hjn : j ≠ n := fun h2 => by rw [h2, e] at h; omega
   obtain ⟨k, h1, h2, h3⟩ := Ybd hV n (by omega) ⟨j, by omega, h⟩
   refine ⟨k, by omega, h2, fun i h4 h5 => ?_⟩
   by_cases hi : i = n
   ·
    rw [hi]; exact e
   ·
    exact h3 i h4 (by omega)
  ·
   exact ⟨n, by omega, e, fun i h1 h2 => by omega⟩
theorem Yez : ∀ b : Fin 256, b.val ≠ 0 → ∃ k : Fin 8, 48 + ((b.val : Int) / 2 ^ (7 - k.val)) % 2 = 49 := by decide +kernel
theorem Xw2 (s : ByteArray) (hs : s.size ≤ 1048576) : (∃ L : List Int, Xh0 L ∧ L.length ≤ 400000 ∧ Xeh s = some (strOfNums L, true) ∧ Xep s = some (strOfNums L, true)) ∨ (Xeh s = some (⟨#[]⟩, false) ∧ Xep s = some (⟨#[]⟩, false)) := by
 unfold Xeh Xep
 rw [wk (e := 8 * (s.size : Int)) (by omega) (by omega)]
 by_cases h0 : s.size = 0
 ·
  rw [h0]
  exact .inr ⟨rfl, rfl⟩
 rw [Xbq (b := (8 * (s.size : Int)) == 0) (by rw [beq_eq_false_iff_ne]; omega), Xbq (b := (s.size : Int) == 0) (by rw [beq_eq_false_iff_ne]; omega), wk (e := (s.size : Int) - 1) (by omega) (by omega), Xam (show 0 ≤ (s.size : Int) - 1 ∧ (s.size : Int) - 1 < s.size by omega)]
 by_cases hbig : s.size > 50001
 ·
  rw [Xaj (by omega), decide_eq_true (by omega), Xab, Xaz]
  refine .inr ⟨?_, rfl⟩
  cases (Xhd s ((s.size : Int) - 1) == 0) <;> rfl
 rw [Xat (by omega), Xam (show 0 ≤ (s.size : Int) - 1 ∧ (s.size : Int) - 1 < s.size by omega), decide_eq_false (by omega)]
 cases hz : (Xhd s ((s.size : Int) - 1) == 0) with
 | true => exact .inr ⟨rfl, rfl⟩
 | false =>
  rw [Xax, Xab, Xab, Xax, Xax, Xam (show 0 ≤ (0 : Int) ∧ (0 : Int) ≤ 8 * (s.size : Int) ∧ 8 * (s.size : Int) * 1 ≤ 281474976710656 by omega), show (List.replicate (0 : Int).toNat (0 : Int)) = [] from rfl, Xm0 s (by omega), Xm1 s (by omega), Xab, Xab]
  have hl := Yb9 s
  have hV := Yb8 s
  obtain ⟨k, k1, k2, k3⟩ := Ybd hV (8 * s.size) (by omega) (by
   have hb := Xr6 s ((s.size : Int) - 1)
   rw [beq_eq_false_iff_ne] at hz
   obtain ⟨k, hk⟩ := Yez ⟨(Xhd s ((s.size : Int) - 1)).toNat, by omega⟩ (by simp only; omega)
   have hk8 := k.isLt
   simp only at hk
   rw [show (((Xhd s ((s.size : Int) - 1)).toNat : Nat) : Int) = Xhd s ((s.size : Int) - 1) by omega] at hk
   refine ⟨8 * (s.size - 1) + k.val, by omega, ?_⟩
   rw [Yc9 s (by omega)]
   unfold Xxa
   rw [show (8 * (s.size - 1) + k.val) / 8 = s.size - 1 by omega, show (8 * (s.size - 1) + k.val) % 8 = k.val by omega, show (((s.size - 1 : Nat)) : Int) = (s.size : Int) - 1 by omega]
   exact hk)
  have lI : loop (Xcu (Xip s)) (8 * (s.size : Int)) = some ((k + 1 : Nat) : Int) := by
   have key : ∀ m : Nat, k + 1 + m ≤ 8 * s.size → loop (Xcu (Xip s)) ((k + 1 + m : Nat) : Int) = some ((k + 1 : Nat) : Int) := by
    intro m
    induction m with
    | zero =>
     intro _
     refine Xbk ?_
     unfold Xcu
     rw [wk (by omega) (by omega), Xam (by omega), Xam (by omega), show (((k + 1 + 0 : Nat) : Int) - 1).toNat = k by omega, k2]
     rfl
    | succ m ih =>
     intro hm
     refine lgo ?_ (ih (by omega))
     unfold Xcu
     rw [wk (by omega) (by omega), Xam (by omega), Xam (by omega), show (((k + 1 + (m + 1) : Nat) : Int) - 1).toNat = k + 1 + m by omega, k3 _ (by omega) (by omega), show ((k + 1 + (m + 1) : Nat) : Int) - 1 = ((k + 1 + m : Nat) : Int) by omega]
     rfl
   have := key (8 * s.size - (k + 1)) (by omega)
   rwa [show ((k + 1 + (8 * s.size - (k + 1)) : Nat) : Int) = 8 * (s.size : Int) by omega] at this
  have lS : loop (Xcw (Xip s)) ((Xip s).length : Int) = some ((k + 1 : Nat) : Int) := by
   have key : ∀ m : Nat, k + 1 + m ≤ 8 * s.size → loop (Xcw (Xip s)) ((k + 1 + m : Nat) : Int) = some ((k + 1 : Nat) : Int) := by
    intro m
    induction m with
    | zero =>
     intro _
     refine Xbk ?_
     unfold Xcw
     rw [Xaj (by omega), wk (by omega) (by omega), Xam (by omega), Xam (by omega), show (((k + 1 + 0 : Nat) : Int) - 1).toNat = k by omega, k2]
     rfl
    | succ m ih =>
     intro hm
     refine lgo ?_ (ih (by omega))
     unfold Xcw
     rw [Xaj (by omega), wk (by omega) (by omega), Xam (by omega), Xam (by omega), show (((k + 1 + (m + 1) : Nat) : Int) - 1).toNat = k + 1 + m by omega, k3 _ (by omega) (by omega), show ((k + 1 + (m + 1) : Nat) : Int) - 1 = ((k + 1 + m : Nat) : Int) by omega]
     rfl
   have := key (8 * s.size - (k + 1)) (by omega)
   rwa [show ((k + 1 + (8 * s.size - (k + 1)) : Nat) : Int) = ((Xip s).length : Int) by omega] at this
  rw [lI, lS, Xab, wk (e := ((k + 1 : Nat) : Int) - 1) (by omega) (by omega), show ((k + 1 : Nat) : Int) - 1 = (k : Int) by omega]
  by_cases hk : (k : Int) > 400000
  ·
   rw [Xaj hk]
   exact .inr ⟨rfl, rfl⟩
  ·
   rw [Xat hk, Xam (by omega), Xam (by omega)]
   exact .inl ⟨(Xip s).take k, fun x hx => hV x (List.mem_of_mem_take hx), by rw [List.length_take]; omega, rfl, rfl⟩
theorem Xc3 (s : ByteArray) (hs : s.size ≤ 1048576) : (∃ (kd : Int) (L : List Int), Xwo kd = true ∧ Xh0 L ∧ L.length ≤ 400000 ∧ Xdi s = some (kd, strOfNums L, true) ∧ Xdo s = some (kd, strOfNums L, true)) ∨ (Xdi s = some (0, ⟨#[]⟩, false) ∧ Xdo s = some (0, ⟨#[]⟩, false)) := by
 unfold Xdi Xdo
 by_cases h0 : s.size = 0
 ·
  have hd : s = ⟨#[]⟩ := by
   have := Xpx s
   have hn : Xde s = [] := List.length_eq_zero_iff.1 (by rw [Xcf]; exact h0)
   rw [hn] at this
   exact this.symm
  subst hd
  have e0 : ((⟨#[]⟩ : ByteArray).toList == (⟨#[]⟩ : ByteArray).toList) = true := beq_self_eq_true _
  have e1 : ((⟨#[]⟩ : ByteArray).size : Int) < 1 := by decide
  rw [e0, Xaz, Xaj e1]
  exact .inr ⟨rfl, rfl⟩
 have hne : (s.toList == (⟨#[]⟩ : ByteArray).toList) = false := by
  rw [beq_eq_false_iff_ne]
  intro h
  exact h0 (by rw [Ycw.1 h]; rfl)
 have hb := Xr6 s 0
 have r0 : ∀ {β : Type} (k : Option β), req (0 ≤ (0 : Int) ∧ (0 : Int) < (s.size : Int)) k = k := fun k => Xam (by omega)
 have r1 : ∀ {β : Type} (k : Option β), req (0 ≤ (1 : Int) ∧ (1 : Int) ≤ (s.size : Int) ∧ (s.size : Int) ≤ (s.size : Int)) k = k := fun k => Xam (by omega)
 rw [hne, Xax, Xat (by omega)]
 simp only [r0, r1, wk (e := Xhd s 0) (by omega) (by omega), Xvj, Xur, Xab]
 cases hk : Xwo (Xhd s 0) with
 | false => exact .inr ⟨rfl, rfl⟩
 | true =>
  rw [Bool.not_true, Xax, Xax]
  rcases Xw2 (s.extract (1 : Int).toNat (s.size : Int).toNat) (by rw [ByteArray.size_extract]; omega) with ⟨L, l1, l2, e1, e2⟩ | ⟨e1, e2⟩
  ·
   rw [e1, e2, Xab]
   exact .inl ⟨_, L, hk, l1, l2, rfl, rfl⟩
  ·
   rw [e1, e2, Xab]
   exact .inr ⟨rfl, rfl⟩
theorem Xjo {L : List Int} (hb : Xh0 L) (hl : L.length ≤ 400000) (i : Nat) (hi : i ≤ L.length) (w : Nat) (hw : w ≤ 41) :
  (∃ v : Int, i + w ≤ L.length ∧ v = Xin ((L.drop i).take w) ∧ (0 ≤ v ∧ v < 2 ^ w) ∧ Xbn (strOfNums L) (i : Int) (w : Int) = some (v, ((i + w : Nat) : Int), true) ∧ Xap ⟨strOfNums L, (i : Int), false⟩ (w : Int) = some (v, ⟨strOfNums L, ((i + w : Nat) : Int), false⟩)) ∨
  (L.length < i + w ∧ Xbn (strOfNums L) (i : Int) (w : Int) = some (0, 0, false) ∧ Xap ⟨strOfNums L, (i : Int), false⟩ (w : Int) = some (0, ⟨strOfNums L, (i : Int), true⟩)) := by
 have es := Xmq hb hl hi hw
 by_cases h : i + w ≤ L.length
 ·
  rw [if_pos h] at es
  have hr := Xjj (l := (L.drop i).take w) (fun x hx => hb x (List.mem_of_mem_drop (List.mem_of_mem_take hx)))
  have hlen : ((L.drop i).take w).length = w := by rw [List.length_take, List.length_drop]; omega
  rw [hlen] at hr
  exact .inl ⟨_, h, rfl, hr, es, Xs1 hb hl h hw⟩
 ·
  rw [if_neg h] at es
  refine .inr ⟨by omega, es, ?_⟩
  unfold Xap
  simp only
  rw [Xax, strOfNums_size, wk (by omega) (by omega), Xab, Xaj (by omega)]
theorem Xsk (s : ByteArray) (a w : Int) : Xap ⟨s, a, true⟩ w = some (0, ⟨s, a, true⟩) := rfl
theorem Xnx (s : ByteArray) (a : Int) : Xb3 ⟨s, a, true⟩ = some ([], ⟨s, a, true⟩) := by
 unfold Xb3
 rw [Yb3, Xab]
 have h : Xar (0, ⟨s, a, true⟩) (0, s, a, true, []) = some (.done ([], s, a, true)) := rfl
 simp only
 rw [Xat (by omega), Xab, Xbw h, Xab]
theorem Xy6 {L : List Int} (hb : Xh0 L) (hl : L.length ≤ 400000) (q1 : Int × Int × Bool) (q2 : Int × Xf2) (N : Nat) (hN : N ≤ 4) (h1 : q1.1 = (N : Int)) (h2 : q2.1 = (N : Int)) : ∀ n k : Nat, k + n = N → ∀ (i : Nat) (l : List Int), i ≤ L.length → l.length = k →
  (∃ (l' : List Int) (j : Nat), loop (Xa5 (strOfNums L) q1) ((i : Int), (k : Int), l) = some (.out ((j : Int), l')) ∧ loop (Xar q2) ((k : Int), strOfNums L, (i : Int), false, l) = some (l', strOfNums L, (j : Int), false) ∧ l'.length ≤ 4 ∧ j ≤ L.length) ∨
  (loop (Xa5 (strOfNums L) q1) ((i : Int), (k : Int), l) = some (.ret ([], 0, false)) ∧ ∃ (l' : List Int) (a : Int), loop (Xar q2) ((k : Int), strOfNums L, (i : Int), false, l) = some (l', strOfNums L, a, true) ∧ l'.length ≤ 4)
 | 0, k, hk, i, l, hi, hll => .inl ⟨l, i, Xbk (by unfold Xa5; simp only; rw [Xat (by omega)]), Xbk (by unfold Xar; simp only; rw [Xat (by omega), Xab, Xax]), by omega, hi⟩
 | n + 1, k, hk, i, l, hi, hll => by
  have hm : maxLen = 9223372036854775807 := rfl
  rcases Xj0 hb hl i hi with ⟨v, j, e1, e2, v1, v2, v3⟩ | ⟨e1, a, e2⟩
  ·
   have gI : Xar q2 ((k : Int), strOfNums L, (i : Int), false, l) = some (.go (((k + 1 : Nat) : Int), strOfNums L, (j : Int), false, l ++ [(v : Int)])) := by
    unfold Xar
    simp only
    rw [Xaj (by omega), Bool.not_false, Xab, Xaz, e2, Xab]
    simp only
    rw [Xam (by simp only [List.length_singleton]; omega), wk (by omega) (by omega)]
    rfl
   have gS : Xa5 (strOfNums L) q1 ((i : Int), (k : Int), l) = some (.go ((j : Int), ((k + 1 : Nat) : Int), l ++ [(v : Int)])) := by
    unfold Xa5
    simp only
    rw [Xaj (by omega), e1, Xab]
    simp only
    rw [Bool.not_true, Xax, Xam (by simp only [List.length_singleton]; omega), wk (by omega) (by omega)]
    rfl
   rcases Xy6 hb hl q1 q2 N hN h1 h2 n (k + 1) (by omega) j (l ++ [(v : Int)]) v3 (by rw [List.length_append, List.length_singleton]; omega) with ⟨l', j', r1, r2, r3, r4⟩ | ⟨r1, l', a, r2, r3⟩
   ·
    exact .inl ⟨l', j', lgo gS r1, lgo gI r2, r3, r4⟩
   ·
    exact .inr ⟨lgo gS r1, l', a, lgo gI r2, r3⟩
  ·
   have gI : Xar q2 ((k : Int), strOfNums L, (i : Int), false, l) = some (.go (((k + 1 : Nat) : Int), strOfNums L, a, true, l ++ [0])) := by
    unfold Xar
    simp only
    rw [Xaj (by omega), Bool.not_false, Xab, Xaz, e2, Xab]
    simp only
    rw [Xam (by simp only [List.length_singleton]; omega), wk (by omega) (by omega)]
    rfl
   have dI : Xar q2 (((k + 1 : Nat) : Int), strOfNums L, a, true, l ++ [0]) = some (.done (l ++ [0], strOfNums L, a, true)) := by
    unfold Xar
    simp only
    cases decide (((k + 1 : Nat) : Int) < q2.1) <;> rfl
   refine .inr ⟨Xbk ?_, l ++ [0], a, lgo gI (Xbk dI), by rw [List.length_append, List.length_singleton]; omega⟩
   unfold Xa5
   simp only
   rw [Xaj (by omega), e1, Xab]
   rfl
theorem Xy5 {L : List Int} (hb : Xh0 L) (hl : L.length ≤ 400000) (i : Nat) (hi : i ≤ L.length) :
  (∃ (l : List Int) (j : Nat), Xce (strOfNums L) (i : Int) = some (l, (j : Int), true) ∧ Xb3 ⟨strOfNums L, (i : Int), false⟩ = some (l, ⟨strOfNums L, (j : Int), false⟩) ∧ l.length ≤ 4 ∧ j ≤ L.length) ∨
  (Xce (strOfNums L) (i : Int) = some ([], 0, false) ∧ ∃ (l : List Int) (a : Int), Xb3 ⟨strOfNums L, (i : Int), false⟩ = some (l, ⟨strOfNums L, a, true⟩) ∧ l.length ≤ 4) := by
 unfold Xce Xb3
 rcases Xj0 hb hl i hi with ⟨v, j, e1, e2, v1, v2, v3⟩ | ⟨e1, a, e2⟩
 ·
  rw [e1, Xab, e2, Xab]
  simp only
  rw [Xaz, Xab]
  by_cases hv : (v : Int) > 4
  ·
   rw [Xaj hv, Xaj hv, Xab]
   have h : Xar ((v : Int), ⟨strOfNums L, (j : Int), false⟩) (0, strOfNums L, (j : Int), true, []) = some (.done ([], strOfNums L, (j : Int), true)) := by
    unfold Xar
    simp only
    rw [Xaj (by omega)]
    rfl
   rw [Xbw h, Xab]
   exact .inr ⟨rfl, [], j, rfl, by simp⟩
  ·
   rw [Xat hv, Xat hv, Xab]
   rcases Xy6 hb hl ((v : Int), (j : Int), true) ((v : Int), ⟨strOfNums L, (j : Int), false⟩) v (by omega) rfl rfl v 0 (by omega) j [] v3 rfl with ⟨l', j', r1, r2, r3, r4⟩ | ⟨r1, l', a, r2, r3⟩
   ·
    have r1' : loop (Xa5 (strOfNums L) ((v : Int), (j : Int), true)) ((j : Int), 0, []) = _ := r1
    have r2' : loop (Xar ((v : Int), ⟨strOfNums L, (j : Int), false⟩)) (0, strOfNums L, (j : Int), false, []) = _ := r2
    rw [r1', r2', Xab, Xab]
    exact .inl ⟨l', j', rfl, rfl, r3, r4⟩
   ·
    have r1' : loop (Xa5 (strOfNums L) ((v : Int), (j : Int), true)) ((j : Int), 0, []) = _ := r1
    have r2' : loop (Xar ((v : Int), ⟨strOfNums L, (j : Int), false⟩)) (0, strOfNums L, (j : Int), false, []) = _ := r2
    rw [r1', r2', Xab, Xab]
    exact .inr ⟨rfl, l', a, rfl, r3⟩
 ·
  rw [e1, Xab, e2, Xab]
  simp only
  rw [Xax, Xab, Xaz, Xat (by omega), Xab]
  have h : Xar (0, ⟨strOfNums L, a, true⟩) (0, strOfNums L, a, true, []) = some (.done ([], strOfNums L, a, true)) := rfl
  rw [Xbw h, Xab]
  exact .inr ⟨rfl, [], a, rfl, by simp⟩
theorem Xtv {L : List Int} (hb : Xh0 L) (hl : L.length ≤ 400000) (i : Nat) (hi : i ≤ L.length) : Xc4 (strOfNums L) (i : Int) = some ⟨strOfNums L, (i : Int), false⟩ := by
 unfold Xc4
 rw [Xxg L hb hl, Xab, Xaz, Xal, Xab, strOfNums_size, decide_eq_true (by omega), Xab]
 rfl
theorem Xyg {L : List Int} (hb : Xh0 L) (hl : L.length ≤ 400000) (i : Nat) (hi : i ≤ L.length) :
  (∃ (q : Seq) (j : Nat), Xco (strOfNums L) (i : Int) = some (q, (j : Int), true) ∧ Xd6 (strOfNums L) (i : Int) = some (q, (j : Int), true) ∧ Xht q = true ∧ q.Cols.length ≤ 4 ∧ q.Rows.length ≤ 4 ∧ j ≤ L.length) ∨
  (Xco (strOfNums L) (i : Int) = some (⟨0, 0, [], []⟩, 0, false) ∧ Xd6 (strOfNums L) (i : Int) = some (⟨0, 0, [], []⟩, 0, false)) := by
 have hm : maxLen = 9223372036854775807 := rfl
 unfold Xco Xd6
 rw [Xtv hb hl i hi, Xab]
 rcases Xj0 hb hl i hi with ⟨v, j, e1, e2, v1, v2, v3⟩ | ⟨e1, a, e2⟩
 ·
  rw [e1, Xab, e2, Xab]
  simp only
  rw [Bool.not_true, Xax]
  rcases Xjo hb hl j v3 4 (by omega) with ⟨w, w1, _, w2, f1, f2⟩ | ⟨_, f1, f2⟩
  ·
   have f1' : Xbn (strOfNums L) (j : Int) 4 = some (w, ((j + 4 : Nat) : Int), true) := f1
   have f2' : Xap ⟨strOfNums L, (j : Int), false⟩ 4 = some (w, ⟨strOfNums L, ((j + 4 : Nat) : Int), false⟩) := f2
   rw [f1', Xab, f2', Xab]
   simp only
   rw [Bool.not_true, Xax]
   rcases Xy5 hb hl (j + 4) w1 with ⟨l, j2, g1, g2, g3, g4⟩ | ⟨g1, l, a, g2, g3⟩
   ·
    rw [g1, Xab, g2, Xab]
    simp only
    rw [Bool.not_true, Xax]
    rcases Xy5 hb hl j2 g4 with ⟨m, j3, k1, k2, k3, k4⟩ | ⟨k1, m, a, k2, k3⟩
    ·
     rw [k1, Xab, k2, Xab]
     simp only
     rw [Xaz, Xax, Xjy, Xab, Xhg _ (by simp only; omega) (by simp only; omega), Xab, Xab, Xab]
     cases hq : Xht ⟨(v : Int), w, l, m⟩ with
     | true => exact .inl ⟨_, j3, rfl, rfl, hq, g3, k3, k4⟩
     | false => exact .inr ⟨rfl, rfl⟩
    ·
     rw [k1, Xab, k2, Xab]
     exact .inr ⟨rfl, rfl⟩
   ·
    rw [g1, Xab, g2, Xab]
    simp only
    rw [Xnx, Xab]
    exact .inr ⟨rfl, rfl⟩
  ·
   have f1' : Xbn (strOfNums L) (j : Int) 4 = some (0, 0, false) := f1
   have f2' : Xap ⟨strOfNums L, (j : Int), false⟩ 4 = some (0, ⟨strOfNums L, (j : Int), true⟩) := f2
   rw [f1', Xab, f2', Xab]
   simp only
   rw [Xnx, Xab]
   simp only
   rw [Xnx, Xab]
   exact .inr ⟨rfl, rfl⟩
 ·
  rw [e1, Xab, e2, Xab]
  simp only
  rw [Xsk, Xab]
  simp only
  rw [Xnx, Xab]
  simp only
  rw [Xnx, Xab]
  exact .inr ⟨rfl, rfl⟩
theorem Ygt {L : List Int} (hb : Xh0 L) {j : Nat} (h : j + 1 ≤ L.length) : Xin ((L.drop j).take 1) = L.getD j 0 - 48 := by
 have : Xin ((L.drop j).take 1) = 2 * Xin ((L.drop j).take 0) + L.getD j 0 - 48 := Xj1 (L := L) (i := j) (k := 0) (by omega)
 rw [this, show Xin ((L.drop j).take 0) = 0 from rfl]; omega
theorem Xp1 {L : List Int} (hb : Xh0 L) (hl : L.length ≤ 400000) (i : Nat) (hi : i ≤ L.length) :
  (∃ (p : Par) (j : Nat), Xcn (strOfNums L) (i : Int) = some (p, (j : Int), true) ∧ Xd5 (strOfNums L) (i : Int) = some (p, (j : Int), true) ∧ Xh2 p = true ∧ j ≤ L.length) ∨
  (Xcn (strOfNums L) (i : Int) = some (⟨0, false, false, false⟩, 0, false) ∧ Xd5 (strOfNums L) (i : Int) = some (⟨0, false, false, false⟩, 0, false)) := by
 unfold Xcn Xd5
 rw [Xtv hb hl i hi, Xab]
 rcases Xjo hb hl i hi 6 (by omega) with ⟨w, w1, _, w2, f1, f2⟩ | ⟨_, f1, f2⟩
 ·
  have f1' : Xbn (strOfNums L) (i : Int) 6 = some (w, ((i + 6 : Nat) : Int), true) := f1
  have f2' : Xap ⟨strOfNums L, (i : Int), false⟩ 6 = some (w, ⟨strOfNums L, ((i + 6 : Nat) : Int), false⟩) := f2
  rw [f1', Xab, f2', Xab]
  simp only
  rw [Xaz, strOfNums_size, wk (e := (L.length : Int) - ((i + 6 : Nat) : Int)) (by omega) (by omega)]
  by_cases h3 : i + 9 ≤ L.length
  ·
   have bit : ∀ j : Nat, j + 1 ≤ L.length → Xap ⟨strOfNums L, (j : Int), false⟩ 1 = some (L.getD j 0 - 48, ⟨strOfNums L, ((j + 1 : Nat) : Int), false⟩) ∧ ((L.getD j 0 - 48 == 1) = (Xhd (strOfNums L) (j : Int) == 49)) := fun j hj => by
    rcases Xjo hb hl j (by omega) 1 (by omega) with ⟨u, _, u1, _, _, g2⟩ | ⟨u1, _⟩
    ·
     rw [Ygt hb hj] at u1
     rw [u1] at g2
     refine ⟨g2, ?_⟩
     obtain ⟨b1, b2⟩ := Xp3 hb (i := j) (by omega)
     rw [b1]
     rcases b2 with b2 | b2 <;> rw [b2] <;> rfl
    ·
     omega
   obtain ⟨a1, a2⟩ := bit (i + 6) (by omega)
   obtain ⟨b1, b2⟩ := bit (i + 6 + 1) (by omega)
   obtain ⟨c1, c2⟩ := bit (i + 6 + 1 + 1) (by omega)
   rw [decide_eq_false (by omega), Xab, Xax, Xam (by omega), wk (e := ((i + 6 : Nat) : Int) + 1) (by omega) (by omega), Xam (by omega), wk (e := ((i + 6 : Nat) : Int) + 2) (by omega) (by omega), Xam (by omega), wk (e := ((i + 6 : Nat) : Int) + 3) (by omega) (by omega), a1, Xab]
   simp only
   rw [b1, Xab]
   simp only
   rw [c1, Xab]
   simp only
   rw [Xax, a2, b2, c2, show ((i + 6 : Nat) : Int) + 1 = ((i + 6 + 1 : Nat) : Int) by omega, show ((i + 6 : Nat) : Int) + 2 = ((i + 6 + 1 + 1 : Nat) : Int) by omega, Xcg, Xcx, Xab, Xab, Xab]
   cases hp : Xh2 ⟨w, Xhd (strOfNums L) ((i + 6 : Nat) : Int) == 49, Xhd (strOfNums L) ((i + 6 + 1 : Nat) : Int) == 49, Xhd (strOfNums L) ((i + 6 + 1 + 1 : Nat) : Int) == 49⟩ with
   | true => exact .inl ⟨_, i + 9, (by rw [Bool.not_true, Xax]; try rfl), (by rw [Bool.not_true, Xax]; try rfl), hp, h3⟩
   | false => exact .inr ⟨rfl, rfl⟩
  ·
   rw [decide_eq_true (by omega), Xab, Xaz]
   refine .inr ⟨rfl, ?_⟩
   have three : ∀ j : Nat, j ≤ L.length → L.length < j + 3 → ∃ (a b c : Int) (e f g : Xf2), Xap ⟨strOfNums L, (j : Int), false⟩ 1 = some (a, e) ∧ Xap e 1 = some (b, f) ∧ Xap f 1 = some (c, g) ∧ g.bad_ = true := fun j h1 h2 => by
    rcases Xjo hb hl j h1 1 (by omega) with ⟨u, k1, _, _, _, g2⟩ | ⟨_, _, g2⟩
    ·
     rcases Xjo hb hl (j + 1) k1 1 (by omega) with ⟨u', k2, _, _, _, g3⟩ | ⟨_, _, g3⟩
     ·
      rcases Xjo hb hl (j + 1 + 1) k2 1 (by omega) with ⟨u'', k3, _, _, _, g4⟩ | ⟨_, _, g4⟩
      ·
       omega
      ·
       exact ⟨_, _, _, _, _, _, g2, g3, g4, rfl⟩
     ·
      exact ⟨_, _, _, _, _, _, g2, g3, Xsk _ _ _, rfl⟩
    ·
     exact ⟨_, _, _, _, _, _, g2, Xsk _ _ _, Xsk _ _ _, rfl⟩
   obtain ⟨a, b, c, e, f, g, r1, r2, r3, r4⟩ := three (i + 6) w1 (by omega)
   rw [r1, Xab]
   simp only
   rw [r2, Xab]
   simp only
   rw [r3, Xab]
   simp only
   rw [r4, Xaz, Xab, Xaz]
 ·
  have f1' : Xbn (strOfNums L) (i : Int) 6 = some (0, 0, false) := f1
  have f2' : Xap ⟨strOfNums L, (i : Int), false⟩ 6 = some (0, ⟨strOfNums L, (i : Int), true⟩) := f2
  rw [f1', Xab, f2', Xab]
  exact .inr ⟨rfl, rfl⟩
theorem Xiq (b : Int) (h : 3 ≤ b ∧ b ≤ 8) : 0 ≤ Xah .u64 b ∧ Xah .i64 (1 * 2 ^ min (Xah .u64 b).toNat (IntKind.bits .i64)) = 2 ^ b.toNat ∧ Xah .i64 (1 * 2 ^ min b.toNat (IntKind.bits .i64)) = 2 ^ b.toNat ∧ (2 : Int) ^ b.toNat ≤ 256 ∧ 8 ≤ (2 : Int) ^ b.toNat := by
 obtain h | h | h | h | h | h : b = 3 ∨ b = 4 ∨ b = 5 ∨ b = 6 ∨ b = 7 ∨ b = 8 := by omega
 all_goals (subst h; decide +kernel)
def Xp4 (q : Seq) (p : Par) (h : Xjk) : Bool := Xht q && (Xh2 p && (decide (0 ≤ h.Tile ∧ h.Tile < Xbf q) && (decide (0 ≤ h.Frame ∧ h.Frame < 2 ^ q.Bits.toNat) && decide (0 ≤ h.Qp ∧ h.Qp ≤ 40))))
theorem Xoj {q : Seq} (h : Xht q = true) : 0 ≤ Xbf q ∧ Xbf q ≤ 1000000 := by
 obtain ⟨h1, h2, _⟩ := Xcc h
 unfold Xbf
 rw [if_pos h]
 have a := Xea h1
 have b := Xea h2
 have : (q.Cols.length : Int) * q.Rows.length ≤ 4 * 4 := Int.mul_le_mul (by omega) (by omega) (by omega) (by omega)
 exact ⟨Int.mul_nonneg (by omega) (by omega), by omega⟩
theorem Xu8 (q : Seq) (p : Par) (h : Xjk) (h1 : q.Cols.length ≤ maxLen) (h2 : q.Rows.length ≤ maxLen) : Xhm q p h = some (Xp4 q p h) := by
 unfold Xhm Xp4
 rw [Xhg q h1 h2, Xab]
 cases hs : Xht q with
 | false => rfl
 | true =>
  rw [Xaz, Xcx, Xab, Bool.true_and]
  cases hp : Xh2 p with
  | false => rfl
  | true =>
   obtain ⟨_, _, b1, b2⟩ := Xcc hs
   obtain ⟨s1, s2, s3, s4, s5⟩ := Xiq q.Bits ⟨b1, b2⟩
   have ht := Xoj hs
   rw [Xaz, Xfn q h1 h2, Xab, Xal, Xab, wk (e := Xbf q - 1) (by omega) (by omega), Bool.true_and, Xam (by omega), s3, wk (e := (2 : Int) ^ q.Bits.toNat - 1) (by omega) (by omega), Xal, Xab, Xal, Xab]
   have e1 : decide (0 ≤ h.Tile ∧ h.Tile ≤ Xbf q - 1) = decide (0 ≤ h.Tile ∧ h.Tile < Xbf q) := by rw [decide_eq_decide]; omega
   have e2 : decide (0 ≤ h.Frame ∧ h.Frame ≤ 2 ^ q.Bits.toNat - 1) = decide (0 ≤ h.Frame ∧ h.Frame < 2 ^ q.Bits.toNat) := by rw [decide_eq_decide]; omega
   rw [e1, e2, Xg6, Xg6, Xab]
theorem Xv1 (q : Seq) (p : Par) (h : Xjk) : Xhv q p h = some (Xp4 q p h) := by
 unfold Xhv Xp4
 rw [Xcg, Xab]
 cases hp : Xh2 p with
 | false => rw [Xax, Xab, Bool.false_and, Bool.and_false]
 | true =>
  rw [Xaz, Xfz, Xab, Bool.true_and]
  cases hs : Xht q with
  | false =>
   have : Xbf q = 0 := by unfold Xbf; rw [hs]; rfl
   rw [this, Bool.false_and]
   by_cases h0 : h.Tile ≥ 0
   ·
    rw [Xaj h0, Xat (by omega), Xab]
   ·
    rw [Xat h0, Xab]
  | true =>
   obtain ⟨_, _, b1, b2⟩ := Xcc hs
   obtain ⟨s1, s2, s3, s4, s5⟩ := Xiq q.Bits ⟨b1, b2⟩
   rw [Bool.true_and, Xam s1, s2, Xa7, Xab, Xzq, Xzq, Xzq, Xzq]
   by_cases t1 : h.Tile ≥ 0
   ·
    rw [if_pos t1]
    by_cases t2 : h.Tile < Xbf q
    ·
     rw [if_pos t2, decide_eq_true (show 0 ≤ h.Tile ∧ h.Tile < Xbf q from ⟨t1, t2⟩), Bool.true_and]
     by_cases f1 : h.Frame ≥ 0
     ·
      rw [if_pos f1]
      by_cases f2 : h.Frame < 2 ^ q.Bits.toNat
      ·
       rw [if_pos f2, decide_eq_true (show 0 ≤ h.Frame ∧ h.Frame < 2 ^ q.Bits.toNat from ⟨f1, f2⟩), Bool.true_and, Xab]
      ·
       rw [if_neg f2, decide_eq_false (show ¬ (0 ≤ h.Frame ∧ h.Frame < 2 ^ q.Bits.toNat) from fun h => f2 h.2), Bool.false_and, Xab]
     ·
      rw [if_neg f1, decide_eq_false (show ¬ (0 ≤ h.Frame ∧ h.Frame < 2 ^ q.Bits.toNat) from fun h => f1 h.1), Bool.false_and, Xab]
    ·
     rw [if_neg t2, decide_eq_false (show ¬ (0 ≤ h.Tile ∧ h.Tile < Xbf q) from fun h => t2 h.2), Bool.false_and, Xab]
   ·
    rw [if_neg t1, decide_eq_false (show ¬ (0 ≤ h.Tile ∧ h.Tile < Xbf q) from fun h => t1 h.1), Bool.false_and, Xab]
theorem Xw3 {L : List Int} (hb : Xh0 L) (hl : L.length ≤ 400000) (q : Seq) (p : Par) (h1 : q.Cols.length ≤ maxLen) (h2 : q.Rows.length ≤ maxLen) :
  (∃ (h : Xjk) (j : Nat), Xdm q p (strOfNums L) = some (h, (j : Int), true) ∧ Xdh q p (strOfNums L) = some (h, (j : Int), true) ∧ Xp4 q p h = true ∧ j ≤ L.length) ∨
  (Xdm q p (strOfNums L) = some (⟨0, 0, 0⟩, 0, false) ∧ Xdh q p (strOfNums L) = some (⟨0, 0, 0⟩, 0, false)) := by
 unfold Xdm Xdh
 have ho : Xc4 (strOfNums L) 0 = some ⟨strOfNums L, ((0 : Nat) : Int), false⟩ := Xtv hb hl 0 (by omega)
 rw [ho, Xab, Xya L hb hl, Xab, Xaz, Xjy, Xab, Xcg, Xab, Xhg q h1 h2, Xab, Xcx, Xab]
 cases hs : Xht q with
 | false => exact .inr ⟨rfl, rfl⟩
 | true =>
  cases hp : Xh2 p with
  | false => exact .inr ⟨rfl, rfl⟩
  | true =>
   rw [Xaz, Bool.not_true, Xab, Xax, Xab, Xax]
   have hpq : 0 ≤ p.Qp ∧ p.Qp ≤ 40 := Yfc hp
   obtain ⟨_, _, b1, b2⟩ := Xcc hs
   rcases Xj0 hb hl 0 (by omega) with ⟨v, j, e1, e2, v1, v2, v3⟩ | ⟨e1, a, e2⟩
   ·
    have e1' : Xay (strOfNums L) 0 = some ((v : Int), (j : Int), true) := e1
    rw [e1', Xab, e2, Xab]
    simp only
    rw [Bool.not_true, Xax]
    rcases Xjo hb hl j v3 q.Bits.toNat (by omega) with ⟨w, w1, _, w2, f1, f2⟩ | ⟨_, f1, f2⟩
    ·
     rw [show ((q.Bits.toNat : Nat) : Int) = q.Bits by omega] at f1 f2
     rw [f1, Xab, f2, Xab]
     simp only
     rw [Bool.not_true, Xax]
     rcases Xt5 hb hl (j + q.Bits.toNat) w1 with ⟨n, j2, g1, g2, g3, g4, g5⟩ | ⟨g1, a, g2⟩
     ·
      rw [g1, Xab, g2, Xab]
      simp only
      rw [Xaz, Xax, wk (e := p.Qp + n) (by omega) (by omega), wk (e := n + p.Qp) (by omega) (by omega), Int.add_comm n p.Qp, Xv1, Xu8 _ _ _ h1 h2, Xab, Xab]
      cases hh : Xp4 q p ⟨(v : Int), w, p.Qp + n⟩ with
      | true => exact .inl ⟨_, j2, rfl, rfl, hh, g5⟩
      | false => exact .inr ⟨rfl, rfl⟩
     ·
      rw [g1, Xab, g2, Xab]
      exact .inr ⟨rfl, rfl⟩
    ·
     rw [show ((q.Bits.toNat : Nat) : Int) = q.Bits by omega] at f1 f2
     rw [f1, Xab, f2, Xab]
     simp only
     rw [Ybx, Xab]
     exact .inr ⟨rfl, rfl⟩
   ·
    have e1' : Xay (strOfNums L) 0 = some (0, 0, false) := e1
    rw [e1', Xab, e2, Xab]
    simp only
    rw [Xsk, Xab]
    simp only
    rw [Ybx, Xab]
    exact .inr ⟨rfl, rfl⟩
theorem Xy1 : ∀ (a : List Int) (x : Int), Xhj (a ++ [x]) = Xhj a + x
 | [], x => by simp [Xhj]
 | y :: a, x => by rw [List.cons_append, Xhj, Xhj, Xy1 a x, Int.add_assoc]
theorem Xy2 {l : List Int} : ∀ k : Nat, k < l.length → Xhj (l.take (k + 1)) = Xhj (l.take k) + l.getD k 0 := by
 intro k hk
 rw [List.take_add_one, List.getElem?_eq_getElem hk, Xie l k hk]
 exact Xy1 _ _
theorem Xk8 {l : List Int} (h : l.all Xe3 = true) {i : Nat} (hi : i < l.length) : 1 ≤ l.getD i 0 ∧ l.getD i 0 ≤ 8 := by
 have := List.all_eq_true.1 h (l.getD i 0) (by rw [Xie l i hi]; exact List.getElem_mem _)
 unfold Xe3 at this
 rwa [decide_eq_true_eq] at this
theorem Xh5 {l : List Int} (h : l.all Xe3 = true) (hl : l.length ≤ 4) (i : Nat) : 0 ≤ Xhj (l.take i) ∧ Xhj (l.take i) ≤ 32 := by
 have := Xjt (l := l.take i) (List.all_eq_true.2 fun x hx => List.all_eq_true.1 h x (List.mem_of_mem_take hx))
 rw [List.length_take] at this
 omega
theorem Xym {l : List Int} (h : l.all Xe3 = true) (hl : l.length ≤ 4) (k : Nat) (hk : k ≤ l.length) : Xe6 l (k : Int) = some (Xhj (l.take k)) := by
 have key : ∀ i : Nat, i ≤ k → loop (Xdc l (k : Int)) (Xhj (l.take i), (i : Int)) = some (Xhj (l.take k)) := by
  refine Xjn _ (Xbk (by unfold Xdc; rw [Xat (by simp)])) ?_
  intro i hi ih
  refine lgo ?_ ih
  have a := Xk8 h (i := i) (by omega)
  have b := Xh5 h hl i
  unfold Xdc
  simp only [Int.toNat_natCast]
  rw [Xaj (by omega), Xam (by omega), wk (e := Xhj (l.take i) + l.getD i 0) (by omega) (by omega), wk (e := (i : Int) + 1) (by omega) (by omega), Xy2 i (by omega)]
  rfl
 exact Xh1 (key 0 (by omega))
theorem Yb1 {l : List Int} (h : l.all Xe3 = true) (hl : l.length ≤ 4) : Xel l = some (Xhj l) := by
 have key : ∀ i : Nat, i ≤ l.length → loop (Xcz l) (Xhj (l.take i), (i : Int)) = some (Xhj l) := by
  refine Xjn _ (Xbk (by unfold Xcz; rw [Xat (by simp), List.take_length])) ?_
  intro i hi ih
  refine lgo ?_ ih
  have a := Xk8 h (i := i) (by omega)
  have b := Xh5 h hl i
  unfold Xcz
  simp only [Int.toNat_natCast]
  rw [Xaj (by omega), Xam (by omega), wk (e := Xhj (l.take i) + l.getD i 0) (by omega) (by omega), wk (e := (i : Int) + 1) (by omega) (by omega), Xy2 i (by omega)]
  rfl
 exact Xh1 (key 0 (by omega))
def Xze (s : Seq) : Bool := (s.Level == 0) && ((s.Bits == 0) && (((s.Cols.length : Int) == 0) && ((s.Rows.length : Int) == 0)))
theorem Xs5 (s : Seq) : Xgs s = some (Xze s) := by
 unfold Xgs Xze
 cases (s.Level == 0) with
 | false => rfl
 | true =>
  cases (s.Bits == 0) with
  | false => rfl
  | true => cases ((s.Cols.length : Int) == 0) <;> rfl
def Xzd (p : Par) : Bool := (p.Qp == 0) && ((p.Large == false) && ((p.Exact == false) && (p.Confined == false)))
theorem Ya6 (s : Seq) (h1 : s.Cols.length ≤ 1048576) (h2 : s.Rows.length ≤ 1048576) : Xqb s = some s ∧ Xfe s = some s := by
 have hm : maxLen = 9223372036854775807 := rfl
 constructor
 ·
  unfold Xqb
  rw [Xam (by simp only [List.length_nil]; omega), Xam (by simp only [List.length_nil]; omega)]
  rfl
 ·
  unfold Xfe Xfp
  rw [Xam (by simp only [List.length_nil]; omega), Xam (by simp only [List.length_nil]; omega), Xab, Xab]
  rfl
theorem Xpe (l : List ByteArray) (hl : l.length ≤ 1048576) : Xc5 l = some l := by
 unfold Xc5
 rw [Xam (by omega), Int.toNat_natCast]
 have := Xsj l (fun p : ByteArray => p) Xai Xai (f := Xc9 l) (by
  intro i o hi ho
  unfold Xc9
  simp only
  rw [Xaj (by omega), Xam (by omega), Xam (by omega), Xam (by omega), wk (by omega) (by omega)]
  rfl) (by
  intro o; unfold Xc9; simp only; rw [Xat (by omega)])
 rw [this, Xab, List.map_id']
theorem Xpc (l : List ByteArray) (m : Int) (hl : l.length ≤ maxLen) (hs : ∀ s ∈ l, s.size ≤ maxLen) (h0 : 0 ≤ m) (h1 : m ≤ 1048576) : ∃ t, Xe0 l m = some t ∧ t ≤ m ∧ -1 ≤ t ∧ (0 ≤ t → l.length ≤ 1048576 ∧ ∀ s ∈ l, s.size ≤ 1048576) := by
 have hm : maxLen = 9223372036854775807 := rfl
 unfold Xe0
 rw [wk (e := m - (l.length : Int)) (by omega) (by omega)]
 by_cases h : m - (l.length : Int) < 0
 ·
  rw [Xaj h]; exact ⟨_, rfl, by omega, by omega, fun h => by omega⟩
 rw [Xat h]
 have key : ∀ (r a : List ByteArray) (t : Int), l = a ++ r → 0 ≤ t → t ≤ m → (∀ s ∈ a, s.size ≤ 1048576) → ∃ o, loop (Xb1 l) (t, (a.length : Int)) = some o ∧ (o = .ret (-1) ∨ ∃ t', o = .out t' ∧ 0 ≤ t' ∧ t' ≤ m ∧ ∀ s ∈ l, s.size ≤ 1048576) := by
  intro r
  induction r with
  | nil =>
   intro a t ha t0 t1 hall
   rw [List.append_nil] at ha
   refine ⟨_, Xbk ?_, .inr ⟨t, rfl, t0, t1, by rw [ha]; exact hall⟩⟩
   unfold Xb1
   simp only
   rw [Xat (by rw [ha]; omega)]
  | cons x r ih =>
   intro a t ha t0 t1 hall
   have hlen : a.length < l.length := by rw [ha]; simp
   have hx : l.getD a.length Xai = x := by rw [ha]; exact Xjp a x _ r
   have hxs := hs x (by rw [ha]; simp)
   by_cases hz : t - (x.size : Int) < 0
   ·
    refine ⟨_, Xbk ?_, .inl rfl⟩
    unfold Xb1
    simp only [Int.toNat_natCast, hx]
    rw [Xaj (by omega), Xam (by omega), wk (by omega) (by omega), Xaj hz]
   ·
    obtain ⟨o, e, ho⟩ := ih (a ++ [x]) (t - (x.size : Int)) (by rw [ha]; simp) (by omega) (by omega) (fun s hs2 => by
     rcases List.mem_append.1 hs2 with h | h
     ·
      exact hall s h
     ·
      rw [List.mem_singleton.1 h]; omega)
    rw [List.length_append, List.length_singleton] at e
    refine ⟨o, lgo ?_ e, ho⟩
    unfold Xb1
    simp only [Int.toNat_natCast, hx]
    rw [Xaj (by omega), Xam (by omega), wk (e := t - (x.size : Int)) (by omega) (by omega), Xat hz, wk (by omega) (by omega)]
    rfl
 obtain ⟨o, e, ho⟩ := key l [] (m - (l.length : Int)) rfl (by omega) (by omega) (fun s hs => by simp at hs)
 have e' : loop (Xb1 l) (m - (l.length : Int), 0) = some o := e
 rw [e', Xab]
 rcases ho with rfl | ⟨t', rfl, b1, b2, b3⟩
 ·
  exact ⟨_, rfl, by omega, by omega, fun h => by omega⟩
 ·
  exact ⟨t', rfl, b2, by omega, fun _ => ⟨by omega, b3⟩⟩
theorem Xyx {q : Seq} {p : Par} {h : Xjk} (hh : Xp4 q p h = true) : Xht q = true ∧ Xh2 p = true ∧ (0 ≤ h.Tile ∧ h.Tile < Xbf q) ∧ (0 ≤ h.Frame ∧ h.Frame < 2 ^ q.Bits.toNat) ∧ (0 ≤ h.Qp ∧ h.Qp ≤ 40) := by
 unfold Xp4 at hh
 simp only [Bool.and_eq_true, decide_eq_true_eq] at hh
 exact hh
theorem Yf5 {b : Nat} (h : 8 ≤ (2 : Int) ^ b) : (2 : Int) ^ b ≠ 0 := by
 generalize (2 : Int) ^ b = N at h ⊢
 omega
theorem Yad {b : Nat} {f : Int} (h : (2 : Int) ^ b ≤ 256) (h1 : f < 2 ^ b) : f ≤ 255 := by
 generalize (2 : Int) ^ b = N at h h1
 omega
theorem Yg1 {s : Seq} (h : Xht s = true) : Yat s = (8 * Xhj s.Cols, 8 * Xhj s.Rows) ∧ (1 ≤ Xhj s.Cols ∧ Xhj s.Cols ≤ 32) ∧ (1 ≤ Xhj s.Rows ∧ Xhj s.Rows ≤ 32) := by
 obtain ⟨s1, s2, _⟩ := Xcc h
 exact ⟨by unfold Yat; rw [if_pos h], Ydj s1, Ydj s2⟩
def Ydx (q : Seq) (x y : Nat) : Yer := ⟨8 * Xhj (q.Cols.take x), 8 * Xhj (q.Rows.take y), 8 * q.Cols.getD x 0, 8 * q.Rows.getD y 0⟩
theorem Xyi {q : Seq} (hs : Xht q = true) (h1 : q.Cols.length ≤ maxLen) (h2 : q.Rows.length ≤ maxLen) (t : Int) (ht : 0 ≤ t ∧ t < Xbf q) : ∃ x y : Nat, (x : Int) = t % (q.Cols.length : Int) ∧ (y : Int) = t / (q.Cols.length : Int) ∧ x < q.Cols.length ∧ y < q.Rows.length ∧ Xm9 q t = some (Ydx q x y, true) ∧ Xfx q t = some (Ydx q x y, true) ∧ (1 ≤ q.Cols.getD x 0 ∧ q.Cols.getD x 0 ≤ 8) ∧ (1 ≤ q.Rows.getD y 0 ∧ q.Rows.getD y 0 ≤ 8) := by
 have hr := Xoj hs
 have hto : Xbf q = (q.Cols.length : Int) * q.Rows.length := by unfold Xbf; rw [if_pos hs]
 obtain ⟨s1, s2, _⟩ := Xcc hs
 have c1 := Xea s1
 have c2 := Xea s2
 unfold Xd9 at s1 s2
 rw [Bool.and_eq_true] at s1 s2
 have m0 := Int.emod_nonneg t (show (q.Cols.length : Int) ≠ 0 by omega)
 have m1 := Int.emod_lt_of_pos t (show 0 < (q.Cols.length : Int) by omega)
 have d0 : 0 ≤ t / (q.Cols.length : Int) := Int.ediv_nonneg ht.1 (by omega)
 have d1 : t / (q.Cols.length : Int) < q.Rows.length := Int.ediv_lt_of_lt_mul (by omega) (by rw [Int.mul_comm, ← hto]; exact ht.2)
 have ex : ∃ x y : Nat, (x : Int) = t % (q.Cols.length : Int) ∧ (y : Int) = t / (q.Cols.length : Int) := ⟨(t % (q.Cols.length : Int)).toNat, (t / (q.Cols.length : Int)).toNat, by omega, by omega⟩
 obtain ⟨x, y, hx, hy⟩ := ex
 have tm : t.tmod (q.Cols.length : Int) = (x : Int) := by rw [Xlf ht.1]; exact hx.symm
 have td : Xah .i64 (t.tdiv (q.Cols.length : Int)) = (y : Int) := by rw [Xic ht.1, ← hy, wk (by omega) (by omega)]
 have bx := Xh5 s1.2 c1.2 x
 have by_ := Xh5 s2.2 c2.2 y
 have gx := Xk8 s1.2 (i := x) (by omega)
 have gy := Xk8 s2.2 (i := y) (by omega)
 refine ⟨x, y, hx, hy, by omega, by omega, ?_, ?_, gx, gy⟩
 ·
  unfold Xm9
  rw [Xfn q h1 h2, Xab, wk (e := Xbf q - 1) (by omega) (by omega), Xal, Xab, decide_eq_true (by omega), Bool.not_true, Xax, Xam (by omega), tm, td, Xam (by omega), Xam (by omega)]
  simp only [Int.toNat_natCast]
  rw [show (0 : Int).toNat = 0 from rfl, List.drop_zero, List.drop_zero, Nat.sub_zero, Nat.sub_zero, Yb1 (List.all_eq_true.2 fun z hz => List.all_eq_true.1 s1.2 z (List.mem_of_mem_take hz)) (by rw [List.length_take]; omega), Xab, Xam (by omega), Yb1 (List.all_eq_true.2 fun z hz => List.all_eq_true.1 s2.2 z (List.mem_of_mem_take hz)) (by rw [List.length_take]; omega), Xab, Xam (by omega), Xam (by omega), wk (e := 8 * Xhj (q.Cols.take x)) (by omega) (by omega), wk (e := 8 * Xhj (q.Rows.take y)) (by omega) (by omega), wk (e := 8 * q.Cols.getD x 0) (by omega) (by omega), wk (e := 8 * q.Rows.getD y 0) (by omega) (by omega)]
  rfl
 ·
  unfold Xfx
  rw [Xat (by omega), Xfz, Xab, decide_eq_false (by omega), Xab, Xax, Xam (by omega), tm, td, Xam (by omega), Xym s1.2 c1.2 x (by omega), Xab, Xym s2.2 c2.2 y (by omega), Xab, Xam (by omega), Xam (by omega)]
  simp only [Int.toNat_natCast]
  rw [wk (e := 8 * Xhj (q.Cols.take x)) (by omega) (by omega), wk (e := 8 * Xhj (q.Rows.take y)) (by omega) (by omega), wk (e := 8 * q.Cols.getD x 0) (by omega) (by omega), wk (e := 8 * q.Rows.getD y 0) (by omega) (by omega)]
  rfl
theorem Xsb {q : Seq} (hs : Xht q = true) (h1 : q.Cols.length ≤ maxLen) (h2 : q.Rows.length ≤ maxLen) (t : Int) (ht : 0 ≤ t ∧ t < Xbf q) : ∃ x y : Nat, (x : Int) = t % (q.Cols.length : Int) ∧ (y : Int) = t / (q.Cols.length : Int) ∧ x < q.Cols.length ∧ y < q.Rows.length ∧ Xcd q t = some (q.Cols.getD x 0 * q.Rows.getD y 0) ∧ (1 ≤ q.Cols.getD x 0 ∧ q.Cols.getD x 0 ≤ 8) ∧ (1 ≤ q.Rows.getD y 0 ∧ q.Rows.getD y 0 ≤ 8) := by
 obtain ⟨x, y, hx, hy, lx, ly, _, e, gx, gy⟩ := Xyi hs h1 h2 t ht
 have mb : q.Cols.getD x 0 * q.Rows.getD y 0 ≤ 8 * 8 := Int.mul_le_mul (by omega) (by omega) (by omega) (by omega)
 have m0 : 1 * 1 ≤ q.Cols.getD x 0 * q.Rows.getD y 0 := Int.mul_le_mul (by omega) (by omega) (by omega) (by omega)
 refine ⟨x, y, hx, hy, lx, ly, ?_, gx, gy⟩
 unfold Xcd
 rw [e, Xab]
 unfold Ydx
 simp only
 rw [Xam (by omega), Xam (by omega), Xic (by omega), Xic (by omega), show 8 * q.Cols.getD x 0 / 8 = q.Cols.getD x 0 by omega, show 8 * q.Rows.getD y 0 / 8 = q.Rows.getD y 0 by omega, wk (e := q.Cols.getD x 0) (by omega) (by omega), wk (e := q.Rows.getD y 0) (by omega) (by omega), wk (by omega) (by omega)]
theorem Ybp {q : Seq} (h : Xbf q = 1) : ∃ c r : Int, q.Cols = [c] ∧ q.Rows = [r] ∧ (1 ≤ c ∧ c ≤ 8) ∧ (1 ≤ r ∧ r ≤ 8) ∧ Yat q = (8 * c, 8 * r) := by
 have hs := Xk6 h
 obtain ⟨s1, s2, _⟩ := Xcc hs
 have l1 := Xea s1
 have l2 := Xea s2
 have ht : Xbf q = (q.Cols.length : Int) * q.Rows.length := by unfold Xbf; rw [if_pos hs]
 have hn : q.Cols.length * q.Rows.length = 1 := by
  have : ((q.Cols.length * q.Rows.length : Nat) : Int) = 1 := by rw [Int.natCast_mul, ← ht, h]
  omega
 have n1 := Nat.eq_one_of_mul_eq_one_right hn
 have n2 := Nat.eq_one_of_mul_eq_one_left hn
 obtain ⟨c, ec⟩ := List.length_eq_one_iff.1 n1
 obtain ⟨r, er⟩ := List.length_eq_one_iff.1 n2
 obtain ⟨e, _⟩ := Yg1 hs
 unfold Xd9 at s1 s2
 rw [Bool.and_eq_true] at s1 s2
 have a1 := List.all_eq_true.1 s1.2 c (by rw [ec]; simp)
 have a2 := List.all_eq_true.1 s2.2 r (by rw [er]; simp)
 unfold Xe3 at a1 a2
 rw [decide_eq_true_eq] at a1 a2
 refine ⟨c, r, ec, er, a1, a2, ?_⟩
 rw [e, ec, er]
 simp [Xhj]
abbrev Xd8 : Xhz := ⟨false, 0, ⟨#[]⟩⟩
def Xd3 (a : Admit) : Bool := cnt a.Count && (cnt a.Gone && (if a.Has = true then decide (Xbf a.Seq = 1) && (Xh2 a.Par && decide (0 ≤ a.Frame ∧ a.Frame < 2 ^ a.Seq.Bits.toNat)) else !a.Live && (Xze a.Seq && (Xzd a.Par && (a.Frame == 0)))))
theorem Xfj (a : Admit) (h1 : a.Seq.Cols.length ≤ maxLen) (h2 : a.Seq.Rows.length ≤ maxLen) : Xfb a = some (Xd3 a) := by
 have w1 : Xaq a.Count 0 1000000000 = some (cnt a.Count) := Xal _ _ _
 have w2 : Xaq a.Gone 0 1000000000 = some (cnt a.Gone) := Xal _ _ _
 have hP : ((a.Par.Qp == 0) && ((a.Par.Large == false) && ((a.Par.Exact == false) && (a.Par.Confined == false)))) = Xzd a.Par := rfl
 unfold Xfb Xd3
 rw [w1, Xab, hP]
 cases cnt a.Count with
 | false => rfl
 | true =>
  rw [Xaz, w2, Xab]
  cases cnt a.Gone with
  | false => rfl
  | true =>
   rw [Xab, Bool.not_true, Xax, Xs5, Xab]
   cases hH : a.Has with
   | false =>
    rw [Bool.not_false, Xaz, if_neg (by decide)]
    cases a.Live with
    | true => rfl
    | false =>
     cases Xze a.Seq with
     | false => rfl
     | true => cases Xzd a.Par <;> rfl
   | true =>
    rw [Bool.not_true, Xax, if_pos rfl, Xfn _ h1 h2, Xab]
    by_cases ht : Xbf a.Seq = 1
    ·
     obtain ⟨_, _, b1, b2⟩ := Xcc (Xk6 ht)
     obtain ⟨s1, s2, s3, s4, s5⟩ := Xiq a.Seq.Bits ⟨b1, b2⟩
     rw [Xda (by rw [beq_iff_eq]; exact ht), decide_eq_true ht, Xcx, Xab]
     cases Xh2 a.Par with
     | false => rfl
     | true =>
      have hw : Xah .i64 ((2 : Int) ^ a.Seq.Bits.toNat - 1) = 2 ^ a.Seq.Bits.toNat - 1 := by
       generalize (2 : Int) ^ a.Seq.Bits.toNat = N at s4 s5
       exact wk (by omega) (by omega)
      rw [Xaz, Xam (by omega), s3, hw, Xal, Xab, Xab]
      have e1 : decide (0 ≤ a.Frame ∧ a.Frame ≤ (2 : Int) ^ a.Seq.Bits.toNat - 1) = decide (0 ≤ a.Frame ∧ a.Frame < (2 : Int) ^ a.Seq.Bits.toNat) := by
       generalize (2 : Int) ^ a.Seq.Bits.toNat = N
       rw [decide_eq_decide]; omega
      rw [e1]; rfl
    ·
     rw [Xbq (by rw [beq_eq_false_iff_ne]; exact ht), decide_eq_false ht]
     rfl
theorem Xua (a : Admit) : Xfh a = some (Xd3 a) := by
 have hP : ((a.Par.Qp == 0) && ((a.Par.Large == false) && ((a.Par.Exact == false) && (a.Par.Confined == false)))) = Xzd a.Par := rfl
 unfold Xfh Xd3
 rw [Xke, Xab, hP]
 cases cnt a.Count with
 | false => rfl
 | true =>
  rw [Xaz, Xke, Xab]
  cases cnt a.Gone with
  | false => rfl
  | true =>
   rw [Xab, Bool.not_true, Xax]
   cases hH : a.Has with
   | false =>
    rw [Bool.not_false, Xaz, if_neg (by decide)]
    cases a.Live with
    | true => rfl
    | false =>
     unfold Xze
     cases (a.Seq.Level == 0) with
     | false => rfl
     | true =>
      cases (a.Seq.Bits == 0) with
      | false => rfl
      | true =>
       cases ((a.Seq.Cols.length : Int) == 0) with
       | false => rfl
       | true =>
        cases ((a.Seq.Rows.length : Int) == 0) with
        | false => rfl
        | true => cases Xzd a.Par <;> rfl
   | true =>
    rw [Bool.not_true, Xax, if_pos rfl, Xfz, Xab]
    by_cases ht : Xbf a.Seq = 1
    ·
     obtain ⟨_, _, b1, b2⟩ := Xcc (Xk6 ht)
     obtain ⟨s1, s2, s3, s4, s5⟩ := Xiq a.Seq.Bits ⟨b1, b2⟩
     rw [Xda (by rw [beq_iff_eq]; exact ht), decide_eq_true ht, Xcg, Xab]
     cases Xh2 a.Par with
     | false => rfl
     | true =>
      rw [Xaz, Xam s1, s2]
      by_cases h0 : a.Frame ≥ 0
      ·
       rw [Xaj h0, Xab]
       have e1 : decide (a.Frame < (2 : Int) ^ a.Seq.Bits.toNat) = decide (0 ≤ a.Frame ∧ a.Frame < (2 : Int) ^ a.Seq.Bits.toNat) := by
        generalize (2 : Int) ^ a.Seq.Bits.toNat = N
        rw [decide_eq_decide]; omega
       rw [e1]; rfl
      ·
       rw [Xat h0, Xab, decide_eq_false (fun h => h0 h.1)]; rfl
    ·
     rw [Xbq (by rw [beq_eq_false_iff_ne]; exact ht), decide_eq_false ht]
     rfl
def Xdp (a : Admit) : Admit := ⟨a.Has, false, a.Seq, a.Par, a.Frame, a.Count, Ygq a.Gone⟩
theorem Xjl {a : Admit} (h : Xd3 a = true) : cnt a.Count = true ∧ cnt a.Gone = true := by
 unfold Xd3 at h
 simp only [Bool.and_eq_true] at h
 exact ⟨h.1, h.2.1⟩
theorem Xz5 {a : Admit} (h : Xd3 a = true) (hh : a.Has = true) : Xbf a.Seq = 1 ∧ Xh2 a.Par = true ∧ (0 ≤ a.Frame ∧ a.Frame < 2 ^ a.Seq.Bits.toNat) := by
 unfold Xd3 at h
 rw [if_pos hh] at h
 simp only [Bool.and_eq_true, decide_eq_true_eq] at h
 exact h.2.2
theorem Xi0 (a : Admit) (h1 : a.Seq.Cols.length ≤ 1048576) (h2 : a.Seq.Rows.length ≤ 1048576) : Xdx a = some a := by
 unfold Xdx
 rw [(Ya6 a.Seq h1 h2).2, Xab]
theorem Xou (a : Admit) (h1 : a.Seq.Cols.length ≤ 1048576) (h2 : a.Seq.Rows.length ≤ 1048576) : Xex a = some (if Xd3 a = true then Xdp a else a) := by
 have hm : maxLen = 9223372036854775807 := rfl
 unfold Xex
 rw [Xi0 a h1 h2, Xab, Xfj a (by omega) (by omega), Xab]
 cases h : Xd3 a with
 | false => rfl
 | true => rw [Xaz, Xkq _ (Xjl h).2, Xab, Xab, if_pos rfl]; rfl
theorem Xku {a : Admit} (h : Xd3 a = true) : Xb8 (⟨a.Has, a.Live, a.Seq, a.Par, a.Frame, a.Count, a.Gone⟩ : Admit) = some (Xdp a) := by
 unfold Xb8
 rw [Xk5 _ (Xjl h).2, Xab]
 rfl
theorem Xpu (s : Seq) (h1 : s.Cols.length ≤ 1048576) (h2 : s.Rows.length ≤ 1048576) : Xd1 s = some s := by
 have hm : maxLen = 9223372036854775807 := rfl
 unfold Xd1
 rw [Xam (by simp only [List.length_nil]; omega), Xam (by simp only [List.length_nil]; omega)]
 rfl
theorem Xgm (us : List ByteArray) (i : Nat) (hi : i < us.length) (h3 : i < 3) (ks : List Int) (rs : List ByteArray) (hk : ks.length = i) (hr : rs.length = i) {k : Int} {L : ByteArray} (e : Xdi (us.getD i Xai) = some (k, L, true)) : Xan us ((i : Int), ks, rs) = some (.go (((i + 1 : Nat) : Int), ks ++ [k], rs ++ [L])) := by
 have hm : maxLen = 9223372036854775807 := rfl
 unfold Xan
 simp only [Int.toNat_natCast]
 rw [Xaj (by omega), Xam (by omega), e, Xab]
 simp only
 rw [Xaz, Xab, Xbq (b := ((ks.length : Int) == 3)) (by rw [beq_eq_false_iff_ne]; omega), Xam (by simp only [List.length_singleton]; omega), Xam (by simp only [List.length_singleton]; omega), wk (by omega) (by omega)]
 rfl
theorem Xfr (us : List ByteArray) (i : Nat) (hi : i < us.length) (ks : List Int) (rs : List ByteArray) {k : Int} {L : ByteArray} (e : Xdi (us.getD i Xai) = some (k, L, false)) : Xan us ((i : Int), ks, rs) = some (.done (.ret (2, ⟨0, 0, [], []⟩, ⟨0, false, false, false⟩, ⟨0, 0, 0⟩, Xd8))) := by
 unfold Xan
 simp only [Int.toNat_natCast]
 rw [Xaj (by omega), Xam (by omega), e, Xab]
 rfl
theorem Xwp (us : List ByteArray) (hi : 3 < us.length) (ks : List Int) (rs : List ByteArray) (hk : ks.length = 3) {k : Int} {L : ByteArray} {b : Bool} (e : Xdi (us.getD 3 Xai) = some (k, L, b)) : Xan us (((3 : Nat) : Int), ks, rs) = some (.done (.ret (2, ⟨0, 0, [], []⟩, ⟨0, false, false, false⟩, ⟨0, 0, 0⟩, Xd8))) := by
 unfold Xan
 simp only [Int.toNat_natCast]
 rw [Xaj (by omega), Xam (by omega), e, Xab, hk]
 cases b <;> rfl
theorem Xnk (us : List ByteArray) (i : Nat) (hi : i = us.length) (ks : List Int) (rs : List ByteArray) : Xan us ((i : Int), ks, rs) = some (.done (.out (ks, rs))) := by
 unfold Xan
 simp only
 rw [Xat (by omega)]
theorem Xjz (us : List ByteArray) (w : List Int) (i : Nat) (hi : i < us.length) (hw : i < w.length) (rs : List ByteArray) (hr : rs.length ≤ 10) (h10 : i ≤ 10) {k : Int} {L : ByteArray} (e : Xdo (us.getD i Xai) = some (k, L, true)) (hk : k = w.getD i 0) : Xbe us w ((i : Int), rs) = some (.go (((i + 1 : Nat) : Int), rs ++ [L])) := by
 have hm : maxLen = 9223372036854775807 := rfl
 unfold Xbe
 simp only [Int.toNat_natCast]
 rw [Xaj (by omega), Xam (by omega), e, Xab]
 simp only
 rw [Xaz, Xam (by omega), Xam (by omega), Xab, Xbq (b := (k != w.getD i 0)) (by rw [bne_eq_false_iff_eq]; exact hk), Xam (by simp only [List.length_singleton]; omega), wk (by omega) (by omega)]
 rfl
theorem Xgj (us : List ByteArray) (w : List Int) (i : Nat) (hi : i < us.length) (hw : i < w.length) (rs : List ByteArray) {k : Int} {L : ByteArray} (e : Xdo (us.getD i Xai) = some (k, L, true)) (hk : k ≠ w.getD i 0) : Xbe us w ((i : Int), rs) = some (.done (.ret ([], false))) := by
 unfold Xbe
 simp only [Int.toNat_natCast]
 rw [Xaj (by omega), Xam (by omega), e, Xab]
 simp only
 rw [Xaz, Xam (by omega), Xam (by omega), Xab, Xda (b := (k != w.getD i 0)) (by rw [bne_iff_ne]; exact hk)]
theorem Xoh (us : List ByteArray) (w : List Int) (i : Nat) (hi : i < us.length) (rs : List ByteArray) {k : Int} {L : ByteArray} (e : Xdo (us.getD i Xai) = some (k, L, false)) : Xbe us w ((i : Int), rs) = some (.done (.ret ([], false))) := by
 unfold Xbe
 simp only [Int.toNat_natCast]
 rw [Xaj (by omega), Xam (by omega), e, Xab]
 rfl
theorem Xzu (us : List ByteArray) (w : List Int) (i : Nat) (hi : i = us.length) (rs : List ByteArray) : Xbe us w ((i : Int), rs) = some (.done (.out rs)) := by
 unfold Xbe
 simp only
 rw [Xat (by omega)]
def Xhh (ks : List Int) : Option Bool := sel ((ks.length : Int) == 3) (req (0 ≤ (0 : Int) ∧ (0 : Int) < ks.length) <| req ((0 : Int).toNat < ks.length) <| sel ((ks.getD ((0 : Int).toNat) 0) != 7) (some true) (req (0 ≤ (1 : Int) ∧ (1 : Int) < ks.length) <| req ((1 : Int).toNat < ks.length) <| sel ((ks.getD ((1 : Int).toNat) 0) != 8) (some true) (req (0 ≤ (2 : Int) ∧ (2 : Int) < ks.length) <| req ((2 : Int).toNat < ks.length) <| sel ((ks.getD ((2 : Int).toNat) 0) != 5) (some true) (some false)))) (sel ((ks.length : Int) != 1) (some true) (req (0 ≤ (0 : Int) ∧ (0 : Int) < ks.length) <| req ((0 : Int).toNat < ks.length) <| some ((ks.getD ((0 : Int).toNat) 0) != 1)))
theorem Xy3 (k : Int) : Xhh [k] = some (k != 1) := rfl
theorem Xtb (a b c : Int) : Xhh [a, b, c] = some (a != 7 || (b != 8 || c != 5)) := by
 show (sel (a != 7) (some true) (sel (b != 8) (some true) (sel (c != 5) (some true) (some false)))) = _
 cases (a != 7) <;> cases (b != 8) <;> cases (c != 5) <;> rfl
def Yf4 (us : List ByteArray) : Prop := (loop (Xan us) (0, [], []) = some (.ret (2, ⟨0, 0, [], []⟩, ⟨0, false, false, false⟩, ⟨0, 0, 0⟩, Xd8)) ∨ ∃ ks rs, loop (Xan us) (0, [], []) = some (.out (ks, rs)) ∧ Xhh ks = some true) ∧ Xbo us = some ([], false)
theorem Yd3 (us : List ByteArray) (hu : ∀ u ∈ us, u.size ≤ 1048576) : Yf4 us ∨
  (∃ L, Xh0 L ∧ L.length ≤ 400000 ∧ loop (Xan us) (0, [], []) = some (.out ([1], [strOfNums L])) ∧ Xbo us = some ([strOfNums L], true)) ∨
  (∃ A B C, (Xh0 A ∧ A.length ≤ 400000) ∧ (Xh0 B ∧ B.length ≤ 400000) ∧ (Xh0 C ∧ C.length ≤ 400000) ∧ loop (Xan us) (0, [], []) = some (.out ([7, 8, 5], [strOfNums A, strOfNums B, strOfNums C])) ∧ Xbo us = some ([strOfNums A, strOfNums B, strOfNums C], true)) := by
 have sno : us.length ≠ 1 → us.length ≠ 3 → Xbo us = some ([], false) := fun h1 h3 => by
  unfold Xbo
  rw [Xbq (b := (us.length : Int) == 1) (by rw [beq_eq_false_iff_ne]; omega), Xab, Xda (b := ((us.length : Int) != (([7, 8, 5] : List Int).length : Int))) (by rw [bne_iff_ne]; simp only [List.length_cons, List.length_nil]; omega)]
 match us, hu, sno with
 | [], _, sno => exact .inl ⟨.inr ⟨[], [], Xbk (Xnk [] 0 rfl [] []), rfl⟩, sno (by simp) (by simp)⟩
 | [u], hu, _ =>
  have hs : ∀ {o : Ou (List ByteArray) (List ByteArray × Bool)}, loop (Xbe [u] [1]) (0, []) = some o → Xbo [u] = (match o with | .out v9 => some (v9, true) | .ret r => some r) := fun {o} h => by
   unfold Xbo
   rw [show (sel ((([u] : List ByteArray).length : Int) == 1) (some ([1] : List Int)) (some [7, 8, 5])) = some [1] from rfl, Xab, Xbq (b := ((([u] : List ByteArray).length : Int) != (([1] : List Int).length : Int))) (by rfl)]
   exact Xh1 h
  rcases Xc3 u (hu u (by simp)) with ⟨k, L, hk, hb, hl, e1, e2⟩ | ⟨e1, e2⟩
  ·
   have j := lgo (Xgm [u] 0 (by simp) (by omega) [] [] rfl rfl e1) (Xbk (Xnk [u] 1 rfl [k] [strOfNums L]))
   by_cases h1 : k = 1
   ·
    subst h1
    have s := lgo (Xjz [u] [1] 0 (by simp) (by simp) [] (by simp) (by omega) e2 rfl) (Xbk (Xzu [u] [1] 1 rfl [strOfNums L]))
    exact .inr (.inl ⟨L, hb, hl, j, hs s⟩)
   ·
    have s := Xbk (Xgj [u] [1] 0 (by simp) (by simp) [] e2 h1)
    refine .inl ⟨.inr ⟨_, _, j, ?_⟩, hs s⟩
    rw [Xy3]
    exact congrArg some (by rw [bne_iff_ne]; exact h1)
  ·
   exact .inl ⟨.inl (Xbk (Xfr [u] 0 (by simp) [] [] e1)), hs (Xbk (Xoh [u] [1] 0 (by simp) [] e2))⟩
 | [u, v], hu, sno =>
  refine .inl ⟨?_, sno (by simp) (by simp)⟩
  rcases Xc3 u (hu u (by simp)) with ⟨k, L, _, _, _, e1, _⟩ | ⟨e1, _⟩
  ·
   rcases Xc3 v (hu v (by simp)) with ⟨k2, L2, _, _, _, f1, _⟩ | ⟨f1, _⟩
   ·
    exact .inr ⟨_, _, lgo (Xgm [u, v] 0 (by simp) (by omega) [] [] rfl rfl e1) (lgo (Xgm [u, v] 1 (by simp) (by omega) [k] [strOfNums L] rfl rfl f1) (Xbk (Xnk [u, v] 2 rfl [k, k2] [strOfNums L, strOfNums L2]))), rfl⟩
   ·
    exact .inl (lgo (Xgm [u, v] 0 (by simp) (by omega) [] [] rfl rfl e1) (Xbk (Xfr [u, v] 1 (by simp) [k] [strOfNums L] f1)))
  ·
   exact .inl (Xbk (Xfr [u, v] 0 (by simp) [] [] e1))
 | [u, v, w], hu, _ =>
  have hs : ∀ {o : Ou (List ByteArray) (List ByteArray × Bool)}, loop (Xbe [u, v, w] [7, 8, 5]) (0, []) = some o → Xbo [u, v, w] = (match o with | .out v9 => some (v9, true) | .ret r => some r) := fun {o} h => by
   unfold Xbo
   rw [show (sel ((([u, v, w] : List ByteArray).length : Int) == 1) (some ([1] : List Int)) (some [7, 8, 5])) = some [7, 8, 5] from rfl, Xab, Xbq (b := ((([u, v, w] : List ByteArray).length : Int) != (([7, 8, 5] : List Int).length : Int))) (by rfl)]
   exact Xh1 h
  have bad3 : ∀ {a b c : Int}, (a ≠ 7 ∨ b ≠ 8 ∨ c ≠ 5) → Xhh [a, b, c] = some true := fun {a b c} h => by
   rw [Xtb]
   rcases h with h | h | h
   ·
    rw [show (a != 7) = true by rw [bne_iff_ne]; exact h]; rfl
   ·
    rw [show (b != 8) = true by rw [bne_iff_ne]; exact h]; cases (a != 7) <;> rfl
   ·
    rw [show (c != 5) = true by rw [bne_iff_ne]; exact h]; cases (a != 7) <;> cases (b != 8) <;> rfl
  rcases Xc3 u (hu u (by simp)) with ⟨k, L, _, b1, l1, e1, e2⟩ | ⟨e1, e2⟩
  ·
   have j1 := Xgm [u, v, w] 0 (by simp) (by omega) [] [] rfl rfl e1
   rcases Xc3 v (hu v (by simp)) with ⟨k2, L2, _, b2, l2, f1, f2⟩ | ⟨f1, f2⟩
   ·
    have j2 := Xgm [u, v, w] 1 (by simp) (by omega) [k] [strOfNums L] rfl rfl f1
    rcases Xc3 w (hu w (by simp)) with ⟨k3, L3, _, b3, l3, g1, g2⟩ | ⟨g1, g2⟩
    ·
     have j3 := Xgm [u, v, w] 2 (by simp) (by omega) [k, k2] [strOfNums L, strOfNums L2] rfl rfl g1
     have j := lgo j1 (lgo j2 (lgo j3 (Xbk (Xnk [u, v, w] 3 rfl [k, k2, k3] [strOfNums L, strOfNums L2, strOfNums L3]))))
     by_cases h7 : k = 7
     ·
      have s1 := Xjz [u, v, w] [7, 8, 5] 0 (by simp) (by simp) [] (by simp) (by omega) e2 h7
      by_cases h8 : k2 = 8
      ·
       have s2 := Xjz [u, v, w] [7, 8, 5] 1 (by simp) (by simp) [strOfNums L] (by simp) (by omega) f2 h8
       by_cases h5 : k3 = 5
       ·
        have s3 := Xjz [u, v, w] [7, 8, 5] 2 (by simp) (by simp) [strOfNums L, strOfNums L2] (by simp) (by omega) g2 h5
        subst h7 h8 h5
        exact .inr (.inr ⟨L, L2, L3, ⟨b1, l1⟩, ⟨b2, l2⟩, ⟨b3, l3⟩, j, hs (lgo s1 (lgo s2 (lgo s3 (Xbk (Xzu [u, v, w] [7, 8, 5] 3 rfl [strOfNums L, strOfNums L2, strOfNums L3])))))⟩)
       ·
        exact .inl ⟨.inr ⟨_, _, j, bad3 (.inr (.inr h5))⟩, hs (lgo s1 (lgo s2 (Xbk (Xgj [u, v, w] [7, 8, 5] 2 (by simp) (by simp) _ g2 h5))))⟩
      ·
       exact .inl ⟨.inr ⟨_, _, j, bad3 (.inr (.inl h8))⟩, hs (lgo s1 (Xbk (Xgj [u, v, w] [7, 8, 5] 1 (by simp) (by simp) _ f2 h8)))⟩
     ·
      exact .inl ⟨.inr ⟨_, _, j, bad3 (.inl h7)⟩, hs (Xbk (Xgj [u, v, w] [7, 8, 5] 0 (by simp) (by simp) _ e2 h7))⟩
    ·
     refine .inl ⟨.inl (lgo j1 (lgo j2 (Xbk (Xfr [u, v, w] 2 (by simp) [k, k2] [strOfNums L, strOfNums L2] g1)))), ?_⟩
     by_cases h7 : k = 7
     ·
      have s1 := Xjz [u, v, w] [7, 8, 5] 0 (by simp) (by simp) [] (by simp) (by omega) e2 h7
      by_cases h8 : k2 = 8
      ·
       exact hs (lgo s1 (lgo (Xjz [u, v, w] [7, 8, 5] 1 (by simp) (by simp) [strOfNums L] (by simp) (by omega) f2 h8) (Xbk (Xoh [u, v, w] [7, 8, 5] 2 (by simp) _ g2))))
      ·
       exact hs (lgo s1 (Xbk (Xgj [u, v, w] [7, 8, 5] 1 (by simp) (by simp) _ f2 h8)))
     ·
      exact hs (Xbk (Xgj [u, v, w] [7, 8, 5] 0 (by simp) (by simp) _ e2 h7))
   ·
    refine .inl ⟨.inl (lgo j1 (Xbk (Xfr [u, v, w] 1 (by simp) [k] [strOfNums L] f1))), ?_⟩
    by_cases h7 : k = 7
    ·
     exact hs (lgo (Xjz [u, v, w] [7, 8, 5] 0 (by simp) (by simp) [] (by simp) (by omega) e2 h7) (Xbk (Xoh [u, v, w] [7, 8, 5] 1 (by simp) _ f2)))
    ·
     exact hs (Xbk (Xgj [u, v, w] [7, 8, 5] 0 (by simp) (by simp) _ e2 h7))
  ·
   exact .inl ⟨.inl (Xbk (Xfr [u, v, w] 0 (by simp) [] [] e1)), hs (Xbk (Xoh [u, v, w] [7, 8, 5] 0 (by simp) _ e2))⟩
 | u :: v :: w :: x :: r, hu, sno =>
  refine .inl ⟨.inl ?_, sno (by simp) (by simp)⟩
  rcases Xc3 u (hu u (by simp)) with ⟨k, L, _, _, _, e1, _⟩ | ⟨e1, _⟩
  ·
   refine lgo (Xgm (u :: v :: w :: x :: r) 0 (by simp) (by omega) [] [] rfl rfl e1) ?_
   rcases Xc3 v (hu v (by simp)) with ⟨k2, L2, _, _, _, f1, _⟩ | ⟨f1, _⟩
   ·
    refine lgo (Xgm (u :: v :: w :: x :: r) 1 (by simp) (by omega) [k] [strOfNums L] rfl rfl f1) ?_
    rcases Xc3 w (hu w (by simp)) with ⟨k3, L3, _, _, _, g1, _⟩ | ⟨g1, _⟩
    ·
     refine lgo (Xgm (u :: v :: w :: x :: r) 2 (by simp) (by omega) [k, k2] [strOfNums L, strOfNums L2] rfl rfl g1) ?_
     rcases Xc3 x (hu x (by simp)) with ⟨k4, L4, _, _, _, i1, _⟩ | ⟨i1, _⟩
     ·
      exact Xbk (Xwp (u :: v :: w :: x :: r) (by simp) _ _ rfl i1)
     ·
      exact Xbk (Xwp (u :: v :: w :: x :: r) (by simp) _ _ rfl i1)
    ·
     exact Xbk (Xfr (u :: v :: w :: x :: r) 2 (by simp) _ _ g1)
   ·
    exact Xbk (Xfr (u :: v :: w :: x :: r) 1 (by simp) _ _ f1)
  ·
   exact Xbk (Xfr (u :: v :: w :: x :: r) 0 (by simp) [] [] e1)
noncomputable def Yae (a : Admit) (key : Bool) (q : Seq) (r : Par) (row : ByteArray) : Option (Int × Seq × Par × Xjk × Xhz) :=
 bnd (Xdh q r row) fun q18 =>
 sel (!q18.2.2) (some (5, ⟨0, 0, [], []⟩, ⟨0, false, false, false⟩, ⟨0, 0, 0⟩, Xd8)) (
 bnd (sel key (some false) (some (!a.Live))) fun v19 =>
 sel v19 (some (6, ⟨0, 0, [], []⟩, ⟨0, false, false, false⟩, ⟨0, 0, 0⟩, Xd8)) (
 bnd (sel key (some false) (some (q18.1.Frame != a.Frame))) fun v20 =>
 sel v20 (some (7, ⟨0, 0, [], []⟩, ⟨0, false, false, false⟩, ⟨0, 0, 0⟩, Xd8)) (
 req (0 ≤ q18.2.1 ∧ q18.2.1 ≤ (row.size : Int) ∧ (row.size : Int) ≤ (row.size : Int)) <|
 bnd (Xch q) fun q21 =>
 bnd (Xf4 r ⟨key, q18.1.Qp, row.extract q18.2.1.toNat (row.size : Int).toNat⟩ q21) fun q22 =>
 sel (!q22) (some (8, ⟨0, 0, [], []⟩, ⟨0, false, false, false⟩, ⟨0, 0, 0⟩, Xd8)) (
 some (0, q, r, q18.1, ⟨key, q18.1.Qp, row.extract q18.2.1.toNat (row.size : Int).toNat⟩)))))
noncomputable def Yar (a : Admit) (key : Bool) (q : Seq) (r : Par) (row : ByteArray) : Option (Admit × Int × Xhz) :=
 bnd (Xdm q r row) fun q14 =>
 sel (!q14.2.2) (some (Xdp a, 5, Xd8)) (
 bnd (sel key (some false) (some (!a.Live))) fun v16 =>
 sel v16 (some (Xdp a, 6, Xd8)) (
 bnd (sel key (some false) (some (q14.1.Frame != a.Frame))) fun v18 =>
 sel v18 (some (Xdp a, 7, Xd8)) (
 req (0 ≤ q14.2.1 ∧ q14.2.1 ≤ (row.size : Int) ∧ (row.size : Int) ≤ (row.size : Int)) <|
 bnd (Xcd q 0) fun q20 =>
 bnd (Xgd r ⟨key, q14.1.Qp, row.extract q14.2.1.toNat (row.size : Int).toNat⟩ q20) fun q21 =>
 sel (!q21) (some (Xdp a, 8, Xd8)) (
 req (0 ≤ Xah .u64 q.Bits) <|
 req (Xah .i64 (1 * 2 ^ min (Xah .u64 q.Bits).toNat (IntKind.bits .i64)) ≠ 0) <|
 bnd (Xef a.Count) fun q23 =>
 some (⟨true, true, q, r, (Xah .i64 (q14.1.Frame + 1)).tmod (Xah .i64 (1 * 2 ^ min (Xah .u64 q.Bits).toNat (IntKind.bits .i64))), q23, a.Gone⟩, 0, ⟨key, q14.1.Qp, row.extract q14.2.1.toNat (row.size : Int).toNat⟩)))))
theorem Xuw (A B C : ByteArray) : ([A, B, C] : List ByteArray).getD ((0 : Int).toNat) Xai = A ∧ ([A, B, C] : List ByteArray).getD ((1 : Int).toNat) Xai = B ∧ ([A, B, C] : List ByteArray).getD ((2 : Int).toNat) Xai = C ∧ (([A, B, C] : List ByteArray).length : Int) = 3 ∧ Xah .i64 (3 - 1) = 2 ∧ (∀ {β : Type} (x : Option β), req (0 ≤ (0 : Int) ∧ (0 : Int) < 3) x = x) ∧ (∀ {β : Type} (x : Option β), req (0 ≤ (1 : Int) ∧ (1 : Int) < 3) x = x) ∧ (∀ {β : Type} (x : Option β), req (0 ≤ (2 : Int) ∧ (2 : Int) < 3) x = x) ∧ (∀ {β : Type} (x : Option β), req ((0 : Int).toNat < ([A, B, C] : List ByteArray).length) x = x) ∧ (∀ {β : Type} (x : Option β), req ((1 : Int).toNat < ([A, B, C] : List ByteArray).length) x = x) ∧ (∀ {β : Type} (x : Option β), req ((2 : Int).toNat < ([A, B, C] : List ByteArray).length) x = x) := by
 refine ⟨rfl, rfl, rfl, rfl, wk (by omega) (by omega), fun x => Xam (by omega), fun x => Xam (by omega), fun x => Xam (by omega), fun x => Xam (by simp), fun x => Xam (by simp), fun x => Xam (by simp)⟩
theorem Xzg (A : ByteArray) : ([A] : List ByteArray).getD ((0 : Int).toNat) Xai = A ∧ (([A] : List ByteArray).length : Int) = 1 ∧ Xah .i64 (1 - 1) = 0 ∧ (∀ {β : Type} (x : Option β), req (0 ≤ (0 : Int) ∧ (0 : Int) < 1) x = x) ∧ (∀ {β : Type} (x : Option β), req ((0 : Int).toNat < ([A] : List ByteArray).length) x = x) := by
 refine ⟨rfl, rfl, wk (by omega) (by omega), fun x => Xam (by omega), fun x => Xam (by simp)⟩
theorem Yce (a : Admit) (us : List ByteArray) (p : Par) (A B C : ByteArray) (h : loop (Xan us) (0, [], []) = some (.out ([7, 8, 5], [A, B, C]))) : Xa3 a us p = bnd (Xd6 A 0) fun q14 => bnd (Xd5 B 0) fun q15 => bnd (sel q14.2.2 (sel (q14.2.1 != (A.size : Int)) (some true) (sel q15.2.2 (sel (q15.2.1 != (B.size : Int)) (some true) (bnd (Xcy q14.1) fun q17 => sel (q17 != 1) (some true) (sel q15.1.Confined (sel (q15.1.Large == p.Large) (some (!(q15.1.Exact == p.Exact))) (some true)) (some true)))) (some true))) (some true)) fun v16 => sel v16 (some (3, ⟨0, 0, [], []⟩, ⟨0, false, false, false⟩, ⟨0, 0, 0⟩, Xd8)) (Yae a true q14.1 q15.1 C) := by
 obtain ⟨g0, g1, g2, n, w, r0, r1, r2, t0, t1, t2⟩ := Xuw A B C
 have hk : Xhh [7, 8, 5] = some false := Xtb 7 8 5
 have e3 : ((([7, 8, 5] : List Int).length : Int) == 3) = true := rfl
 unfold Xhh at hk
 unfold Xa3 Yae
 rw [h, Xab]
 simp only [Xta]
 rw [hk, Xab, Xax]
 simp only [e3, Xaz, n, w, r0, r1, r2, t0, t1, t2, g0, g1, g2]
theorem Ycf (a : Admit) (us : List ByteArray) (p : Par) (A : ByteArray) (h : loop (Xan us) (0, [], []) = some (.out ([1], [A]))) : Xa3 a us p = sel (!a.Has) (some (4, ⟨0, 0, [], []⟩, ⟨0, false, false, false⟩, ⟨0, 0, 0⟩, Xd8)) (Yae a false a.Seq a.Par A) := by
 obtain ⟨g0, n, w, r0, t0⟩ := Xzg A
 have hk : Xhh [1] = some false := Xy3 1
 have e3 : ((([1] : List Int).length : Int) == 3) = false := rfl
 unfold Xhh at hk
 unfold Xa3 Yae
 rw [h, Xab]
 simp only [Xta]
 rw [hk, Xab, Xax]
 simp only [e3, Xax, n, w, r0, t0, g0]
theorem Ydk (a : Admit) (us : List ByteArray) (p : Par) (h : Yf4 us) : Xa3 a us p = some (2, ⟨0, 0, [], []⟩, ⟨0, false, false, false⟩, ⟨0, 0, 0⟩, Xd8) := by
 unfold Xa3
 rcases h.1 with h | ⟨ks, rs, h, hk⟩
 ·
  rw [h, Xab]
 ·
  rw [h, Xab]
  unfold Xhh at hk
  simp only [Xta]
  rw [hk, Xab, Xaz]
theorem Xn1 {a : Admit} {us : List ByteArray} {p : Par} (h1 : a.Seq.Cols.length ≤ 1048576) (h2 : a.Seq.Rows.length ≤ 1048576) : Xd1 a.Seq = some a.Seq ∧ Xfh (⟨a.Has, a.Live, a.Seq, a.Par, a.Frame, a.Count, a.Gone⟩ : Admit) = some (Xd3 a) := ⟨Xpu _ h1 h2, Xua a⟩
theorem Yd8 {a : Admit} {us : List ByteArray} {p : Par} {A B C : ByteArray} (h1 : a.Seq.Cols.length ≤ 1048576) (h2 : a.Seq.Rows.length ≤ 1048576) (ha : Xd3 a = true) (hp : Xh2 p = true) (h : Xbo us = some ([A, B, C], true)) : Xbh a us p = bnd (Xco A 0) fun q8 => bnd (Xcn B 0) fun q9 => bnd (sel q8.2.2 (sel (q8.2.1 != (A.size : Int)) (some true) (sel q9.2.2 (sel (q9.2.1 != (B.size : Int)) (some true) (bnd (Xc2 q8.1) fun q11 => sel (q11 != 1) (some true) (sel q9.1.Confined (sel (q9.1.Large == p.Large) (some (!(q9.1.Exact == p.Exact))) (some true)) (some true)))) (some true))) (some true)) fun v10 => sel v10 (some (Xdp a, 3, Xd8)) (Yar a true q8.1 q9.1 C) := by
 obtain ⟨e1, e2⟩ := Xn1 (us := us) (p := p) h1 h2
 unfold Xbh
 obtain ⟨g0, g1, g2, n, w, r0, r1, r2, t0, t1, t2⟩ := Xuw A B C
 have e3 : ((3 : Int) == 3) = true := rfl
 rw [e1, Xab, e2, Xab, ha, Xaz, Xcg, Xab, hp, Xab, Bool.not_true, Xax, h, Xab]
 unfold Yar
 simp only [Xku ha, Xab, Xta, Bool.not_true, Xax, n, e3, Xaz, w, r0, r1, r2, t0, t1, t2, g0, g1, g2]
theorem Yd9 {a : Admit} {us : List ByteArray} {p : Par} {A : ByteArray} (h1 : a.Seq.Cols.length ≤ 1048576) (h2 : a.Seq.Rows.length ≤ 1048576) (ha : Xd3 a = true) (hp : Xh2 p = true) (h : Xbo us = some ([A], true)) : Xbh a us p = sel (!a.Has) (some (Xdp a, 4, Xd8)) (Yar a false a.Seq a.Par A) := by
 obtain ⟨e1, e2⟩ := Xn1 (us := us) (p := p) h1 h2
 unfold Xbh
 obtain ⟨g0, n, w, r0, t0⟩ := Xzg A
 have e3 : ((1 : Int) == 3) = false := rfl
 rw [e1, Xab, e2, Xab, ha, Xaz, Xcg, Xab, hp, Xab, Bool.not_true, Xax, h, Xab]
 unfold Yar
 simp only [Xku ha, Xab, Xta, Bool.not_true, Xax, n, e3, w, r0, t0, g0]
 cases hH : a.Has with
 | false => rw [Bool.not_false, Xaz, Xaz]
 | true => rw [Bool.not_true, Xax]
theorem Yan {q : Seq} (h : Xbf q = 1) : Xch q = some (Xeu q) ∧ Xcd q 0 = some (Xeu q) := by
 have hm : maxLen = 9223372036854775807 := rfl
 obtain ⟨c, r, ec, er, hc, hr, esz⟩ := Ybp h
 have so := Xk6 h
 obtain ⟨x, y, hx, hy, lx, ly, eT, _⟩ := Xsb so (by rw [ec]; simp; omega) (by rw [er]; simp; omega) 0 ⟨Int.le_refl _, by omega⟩
 refine ⟨Xiw q (by rw [ec]; simp; omega) (by rw [er]; simp; omega), ?_⟩
 obtain ⟨o1, o2, _⟩ := Xcc so
 have sq : Xeu q = c * r := by
  unfold Xeu Xpy
  rw [if_pos o1, if_pos o2, ec, er]
  simp [Xhj]
 rw [ec] at hx lx eT
 rw [er] at ly eT
 have x0 : x = 0 := by simp at lx; exact lx
 have y0 : y = 0 := by simp at ly; exact ly
 subst x0 y0
 rw [sq]
 exact eT
theorem Xzw {a : Admit} (ha : Xd3 a = true) (key : Bool) {q : Seq} (r : Par) {L : List Int} (hb : Xh0 L) (hl : L.length ≤ 400000) (hq : Xbf q = 1) :
  (∃ co : Int, co ≠ 0 ∧ Yae a key q r (strOfNums L) = some (co, ⟨0, 0, [], []⟩, ⟨0, false, false, false⟩, ⟨0, 0, 0⟩, Xd8) ∧ Yar a key q r (strOfNums L) = some (Xdp a, co, Xd8)) ∨
  (∃ (h : Xjk) (t : Xhz), Yae a key q r (strOfNums L) = some (0, q, r, h, t) ∧ Yar a key q r (strOfNums L) = some (⟨true, true, q, r, (h.Frame + 1) % 2 ^ q.Bits.toNat, Ygq a.Count, a.Gone⟩, 0, t) ∧ Xhi h.Frame q.Bits = some ((h.Frame + 1) % 2 ^ q.Bits.toNat)) := by
 have hm : maxLen = 9223372036854775807 := rfl
 obtain ⟨c, rr, ec, er, hc, hr, esz⟩ := Ybp hq
 have so := Xk6 hq
 obtain ⟨_, _, b1, b2⟩ := Xcc so
 obtain ⟨z1, z2, z3, z4, z5⟩ := Xiq q.Bits ⟨b1, b2⟩
 obtain ⟨q1, q2⟩ := Yan hq
 unfold Yae Yar
 rcases Xw3 hb hl q r (by rw [ec]; simp; omega) (by rw [er]; simp; omega) with ⟨h, j, e2, e1, hh, hj⟩ | ⟨e2, e1⟩
 ·
  rw [e1, Xab, e2, Xab]
  simp only
  rw [Bool.not_true, Xax, Xax]
  obtain ⟨_, _, _, hf, _⟩ := Xyx hh
  have hf0 := hf.1
  have hfs := Yad z4 hf.2
  have ev : ∃ b : Bool, (sel key (some false) (some (!a.Live))) = some b := by cases key <;> exact ⟨_, rfl⟩
  obtain ⟨b, eb⟩ := ev
  rw [eb, Xab, Xab]
  cases b with
  | true => exact .inl ⟨6, by decide, rfl, rfl⟩
  | false =>
   rw [Xax, Xax]
   have ev2 : ∃ b : Bool, (sel key (some false) (some (h.Frame != a.Frame))) = some b := by cases key <;> exact ⟨_, rfl⟩
   obtain ⟨b2', eb2⟩ := ev2
   rw [eb2, Xab, Xab]
   cases b2' with
   | true => exact .inl ⟨7, by decide, rfl, rfl⟩
   | false =>
    rw [Xax, Xax, strOfNums_size, Xam (by omega), Xam (by omega), q1, Xab, q2, Xab]
    obtain ⟨pb, p1, p2⟩ := Xz1 r ⟨key, h.Qp, (strOfNums L).extract (j : Int).toNat (L.length : Int).toNat⟩ (Xeu q)
    rw [p1, Xab, p2, Xab]
    cases pb with
    | false => exact .inl ⟨8, by decide, rfl, rfl⟩
    | true =>
     rw [Bool.not_true, Xax, Xax, Xam z1, z2, Xam (Yf5 z5), Xk5 _ (Xjl ha).1, Xab, wk (e := h.Frame + 1) (by omega) (by omega), Xlf (by omega)]
     refine .inr ⟨h, _, rfl, rfl, ?_⟩
     unfold Xhi
     rw [Xam (by omega), z3, Xam (Yf5 z5), wk (e := h.Frame + 1) (by omega) (by omega), Xlf (by omega)]
 ·
  rw [e1, Xab, e2, Xab]
  exact .inl ⟨5, by decide, rfl, rfl⟩
theorem Xu2 (a : Admit) (us : List ByteArray) (p : Par) (h1 : a.Seq.Cols.length ≤ 1048576) (h2 : a.Seq.Rows.length ≤ 1048576) (hu : ∀ u ∈ us, u.size ≤ 1048576) : ∃ b co t, Xbp a us p = some (b, co, t) ∧ Xbh a us p = some (b, co, t) ∧ b.Seq.Cols.length ≤ 1048576 ∧ b.Seq.Rows.length ≤ 1048576 := by
 have hm : maxLen = 9223372036854775807 := rfl
 have hcp := Xi0 a h1 h2
 cases hap : (Xd3 a && Xh2 p) with
 | false =>
  have e1 : (sel (Xd3 a) (some (!Xh2 p)) (some true)) = some true := by
   cases h3 : Xd3 a with
   | false => rfl
   | true => rw [h3, Bool.true_and] at hap; rw [hap]; rfl
  refine ⟨a, 1, Xd8, ?_, ?_, h1, h2⟩
  ·
   unfold Xbp
   rw [hcp, Xab, Xfj a (by omega) (by omega), Xab, Xcx, Xab, e1, Xab, Xaz]
  ·
   obtain ⟨c1, c2⟩ := Xn1 (us := us) (p := p) h1 h2
   unfold Xbh
   rw [c1, Xab, c2, Xab, Xcg, Xab, e1, Xab, Xaz]
 | true =>
  rw [Bool.and_eq_true] at hap
  obtain ⟨ha, hp⟩ := hap
  have iF : ∀ {co : Int} {q : Seq} {r : Par} {h : Xjk} {t : Xhz}, Xa3 a us p = some (co, q, r, h, t) → co ≠ 0 → Xbp a us p = some (Xdp a, co, Xd8) := fun {co q r h t} e hco => by
   unfold Xbp
   rw [hcp, Xab, Xfj a (by omega) (by omega), Xab, ha, Xaz, Xcx, Xab, hp, Xab, Bool.not_true, Xax, e, Xab]
   simp only
   rw [Xda (by rw [bne_iff_ne]; exact hco), Xou a h1 h2, Xab, if_pos ha]
  have iG : ∀ {q : Seq} {r : Par} {h : Xjk} {t : Xhz} {f : Int}, Xa3 a us p = some (0, q, r, h, t) → q.Cols.length ≤ 1048576 → q.Rows.length ≤ 1048576 → Xhi h.Frame q.Bits = some f → Xbp a us p = some (⟨true, true, q, r, f, Ygq a.Count, a.Gone⟩, 0, t) := fun {q r h t f} e hc hr hf => by
   unfold Xbp
   rw [hcp, Xab, Xfj a (by omega) (by omega), Xab, ha, Xaz, Xcx, Xab, hp, Xab, Bool.not_true, Xax, e, Xab]
   simp only
   rw [Xbq (by rfl), (Ya6 q hc hr).2, Xab, hf, Xab, Xkq _ (Xjl ha).1, Xab]
  rcases Yd3 us hu with hn | ⟨L, hb, hl, l1, l2⟩ | ⟨A, B, C, ⟨a1, a2⟩, ⟨b1, b2⟩, ⟨c1, c2⟩, l1, l2⟩
  ·
   refine ⟨Xdp a, 2, Xd8, iF (Ydk a us p hn) (by decide), ?_, h1, h2⟩
   obtain ⟨c1, c2⟩ := Xn1 (us := us) (p := p) h1 h2
   unfold Xbh
   rw [c1, Xab, c2, Xab, ha, Xaz, Xcg, Xab, hp, Xab, Bool.not_true, Xax, hn.2, Xab]
   simp only
   rw [Bool.not_false, Xaz, Xku ha, Xab]
  ·
   have eI := Ycf a us p _ l1
   have eS := Yd9 h1 h2 ha hp l2
   cases hH : a.Has with
   | false =>
    rw [hH, Bool.not_false, Xaz] at eI eS
    exact ⟨_, _, _, iF eI (by decide), eS, h1, h2⟩
   | true =>
    rw [hH, Bool.not_true, Xax] at eI eS
    obtain ⟨t1, _⟩ := Xz5 ha hH
    rcases Xzw ha false a.Par hb hl t1 with ⟨co, hco, i1, i2⟩ | ⟨h, t, i1, i2, i3⟩
    ·
     exact ⟨_, _, _, iF (eI.trans i1) hco, eS.trans i2, h1, h2⟩
    ·
     exact ⟨_, _, _, iG (eI.trans i1) h1 h2 i3, eS.trans i2, h1, h2⟩
  ·
   have eI := Yce a us p _ _ _ l1
   have eS := Yd8 h1 h2 ha hp l2
   have hz : ((0 : Nat) : Int) = 0 := rfl
   have bad : Xa3 a us p = some (3, ⟨0, 0, [], []⟩, ⟨0, false, false, false⟩, ⟨0, 0, 0⟩, Xd8) → Xbh a us p = some (Xdp a, 3, Xd8) → ∃ b co t, Xbp a us p = some (b, co, t) ∧ Xbh a us p = some (b, co, t) ∧ b.Seq.Cols.length ≤ 1048576 ∧ b.Seq.Rows.length ≤ 1048576 := fun e1 e2 => ⟨_, _, _, iF e1 (by decide), e2, h1, h2⟩
   rcases Xyg a1 a2 0 (by omega) with ⟨q, j, r1, r2, hs, n1, n2, _⟩ | ⟨r1, r2⟩
   ·
    rw [hz] at r1 r2
    rw [r2, Xab] at eI
    rw [r1, Xab] at eS
    rcases Xp1 b1 b2 0 (by omega) with ⟨r, j2, s1, s2, hpr, _⟩ | ⟨s1, s2⟩
    ·
     rw [hz] at s1 s2
     rw [s2, Xab] at eI
     rw [s1, Xab] at eS
     simp only [Xfn q (show q.Cols.length ≤ maxLen by omega) (show q.Rows.length ≤ maxLen by omega), Xfz, Xab, Xaz] at eI eS
     have ev : ∃ b : Bool, (sel ((j : Int) != ((strOfNums A).size : Int)) (some true) (sel ((j2 : Int) != ((strOfNums B).size : Int)) (some true) (sel (Xbf q != 1) (some true) (sel r.Confined (sel (r.Large == p.Large) (some (!(r.Exact == p.Exact))) (some true)) (some true))))) = some b ∧ (b = false → Xbf q = 1) := by
      cases ((j : Int) != ((strOfNums A).size : Int)) with
      | true => exact ⟨true, rfl, fun h => by cases h⟩
      | false =>
       cases ((j2 : Int) != ((strOfNums B).size : Int)) with
       | true => exact ⟨true, rfl, fun h => by cases h⟩
       | false =>
        cases ht : (Xbf q != 1) with
        | true => exact ⟨true, rfl, fun h => by cases h⟩
        | false =>
         rw [Xax, Xax, Xax]
         have h1 : Xbf q = 1 := by rw [bne_eq_false_iff_eq] at ht; exact ht
         cases r.Confined with
         | false => exact ⟨true, rfl, fun h => by cases h⟩
         | true =>
          cases (r.Large == p.Large) with
          | false => exact ⟨true, rfl, fun h => by cases h⟩
          | true => exact ⟨_, rfl, fun _ => h1⟩
     obtain ⟨b, eb, hb1⟩ := ev
     rw [eb, Xab] at eI eS
     cases b with
     | true => exact bad eI eS
     | false =>
      rw [Xax] at eI eS
      rcases Xzw ha true r c1 c2 (hb1 rfl) with ⟨co, hco, i1, i2⟩ | ⟨h, t, i1, i2, i3⟩
      ·
       exact ⟨_, _, _, iF (eI.trans i1) hco, eS.trans i2, h1, h2⟩
      ·
       exact ⟨_, _, _, iG (eI.trans i1) (by omega) (by omega) i3, eS.trans i2, by simp only; omega, by simp only; omega⟩
    ·
     rw [hz] at s1 s2
     rw [s2, Xab] at eI
     rw [s1, Xab] at eS
     have tt : ∀ b : Bool, sel b (some true) (some true) = some true := fun b => by cases b <;> rfl
     simp only [Xaz, Xax, tt, Xab] at eI eS
     exact bad eI eS
   ·
    rw [hz] at r1 r2
    rw [r2, Xab] at eI
    rw [r1, Xab] at eS
    simp only [Xax, Xab, Xaz] at eI eS
    rcases Xp1 b1 b2 0 (by omega) with ⟨r, j2, s1, s2, hpr, _⟩ | ⟨s1, s2⟩
    ·
     rw [hz] at s1 s2
     rw [s2, Xab] at eI
     rw [s1, Xab] at eS
     exact bad eI eS
    ·
     rw [hz] at s1 s2
     rw [s2, Xab] at eI
     rw [s1, Xab] at eS
     exact bad eI eS
theorem Xtl (a : Admit) (h1 : a.Seq.Cols.length ≤ maxLen) (h2 : a.Seq.Rows.length ≤ maxLen) : ∃ t, Xgv a 1048576 = some t ∧ t ≤ 1048576 ∧ (0 ≤ t → a.Seq.Cols.length ≤ 1048576 ∧ a.Seq.Rows.length ≤ 1048576) := by
 obtain ⟨t, e, a1, a2, a3⟩ := Xxq a.Seq 1048576 h1 h2 (by omega) (by omega)
 unfold Xgv
 rw [e, Xab]
 by_cases ht : t < 0
 ·
  rw [Xaj ht]; exact ⟨_, rfl, by omega, by omega⟩
 ·
  rw [Xat ht]; exact ⟨_, rfl, a1, a3⟩
theorem Xto (a : Admit) (h1 : a.Seq.Cols.length ≤ 1048576) (h2 : a.Seq.Rows.length ≤ 1048576) : Xd7 a = some a ∧ Xe1 a = some a := by
 unfold Xd7 Xe1 Xeo
 rw [Xxr _ h1 h2, Xab, Xab]
 exact ⟨rfl, rfl⟩
theorem Xi5 (a : Admit) (h1 : a.Seq.Cols.length ≤ 1048576) (h2 : a.Seq.Rows.length ≤ 1048576) : Xdd a a = some true := by
 unfold Xdd
 simp only [beq_self_eq_true, Bool.not_true, Xax, Xtf _ (show a.Seq.Cols.length ≤ 9223372036854775806 by omega) (show a.Seq.Rows.length ≤ 9223372036854775806 by omega), Xtc, Xab, bne_self_eq_false]
theorem Xq3 (t : Xhz) : Xfa t t = some true := by
 unfold Xfa
 simp only [beq_self_eq_true, Bool.not_true, Xax, bne_self_eq_false]
def Xwq (a : Admit) (k : Int) : Admit := ⟨a.Has, a.Live, ⟨a.Seq.Level, a.Seq.Bits, Xkh k a.Seq.Cols, Xkh (k + (a.Seq.Cols.length : Int)) a.Seq.Rows⟩, a.Par, a.Frame, a.Count, a.Gone⟩
theorem Xh8 (a : Admit) (k : Int) (h0 : 0 < k) (h1 : k ≤ 100000000) (hc : a.Seq.Cols.length ≤ 100000000) (hr : a.Seq.Rows.length ≤ 100000000) : Xdz a k = some (k + a.Seq.Cols.length + a.Seq.Rows.length, Xwq a k) := by
 unfold Xdz
 rw [Xtj _ _ h0 h1 hc hr, Xab]
 rfl
theorem Xno (a : Admit) (k : Int) (h0 : 0 < k) (h1 : k ≤ 100000000) (hc : a.Seq.Cols.length ≤ 100000000) (hr : a.Seq.Rows.length ≤ 100000000) : Xdy (Xwq a k) k = some (k + a.Seq.Cols.length + a.Seq.Rows.length) := by
 unfold Xdy
 rw [Xth (Xwq a k).Seq a.Seq.Cols a.Seq.Rows k h0 h1 hc hr rfl rfl, Xab, Xat (by omega)]
theorem Xmn (l : List ByteArray) (hl : l.length ≤ 1048576) : Xdu l = some l := by
 unfold Xdu
 rw [Xam (by omega), Int.toNat_natCast]
 have := Xsj l (fun p : ByteArray => p) Xai Xai (f := Xcm l) (by
  intro i o hi ho
  unfold Xcm
  simp only
  rw [Xaj (by omega), Xam (by omega), Xam (by omega), Xam (by omega), wk (by omega) (by omega)]
  rfl) (by
  intro o; unfold Xcm; simp only; rw [Xat (by omega)])
 rw [this, Xab, List.map_id']
theorem FnExactAdmitStep {p0 : Admit} {p1 : List ByteArray} {p2 : Par} (h0 : Yam p0) (h1 : p1.length ≤ maxLen ∧ ∀ y ∈ p1, y.size ≤ maxLen) (h2 : Ygr p2) : Xc0 p0 p1 p2 = some true := by
 have hm : maxLen = 9223372036854775807 := rfl
 unfold Xc0
 unfold Yam Ygs at h0
 obtain ⟨t, e, ta, hta⟩ := Xtl p0 h0.2.2.1.2.2.1.1 h0.2.2.1.2.2.2.1
 rw [e, Xab]
 by_cases t0 : t < 0
 ·
  rw [Xaj t0]
 rw [Xat t0]
 obtain ⟨l1, l2⟩ := hta (by omega)
 obtain ⟨z, ez, za, zb, hz⟩ := Xpc p1 t h1.1 h1.2 (by omega) ta
 rw [ez, Xab]
 by_cases z0 : z < 0
 ·
  rw [Xaj z0]
 rw [Xat z0]
 obtain ⟨u1, u2⟩ := hz (by omega)
 obtain ⟨b, co, pt, ei, es, b1, b2⟩ := Xu2 p0 p1 p2 l1 l2 u2
 obtain ⟨eA, eAs⟩ := Xto p0 l1 l2
 have eP : Xeo p2 = some p2 := rfl
 have hsm : (⟨b.Has, b.Live, (⟨b.Seq.Level, b.Seq.Bits, (Xwq b 1).Seq.Cols, (Xwq b 1).Seq.Rows⟩ : Seq), b.Par, b.Frame, b.Count, b.Gone⟩ : Admit) = Xwq b 1 := rfl
 simp only [eA, eAs, eP, Xpe p1 u1, Xmn p1 u1, es, ei, Xab, Xi5 b b1 b2, Xi5 p0 l1 l2, Xq3, Xmj p1 (by omega), Xaz, Xax, Bool.not_true, bne_self_eq_false, Xh8 p0 1 (by omega) (by omega) (by omega) (by omega), Xh8 b 1 (by omega) (by omega) (by omega) (by omega), hsm, Xno b 1 (by omega) (by omega) (by omega) (by omega)]
 rw [Xml p1 (1 + (p0.Seq.Cols.length : Int) + (p0.Seq.Rows.length : Int)) (by omega) (by omega) (by omega), Xab]
 simp only
 rw [Xat (by omega), Xab, Xax, Xat (by omega), Xat (by omega)]
end Go.Proofs.YtnhflbeahbcklabGreat.A.Pure
