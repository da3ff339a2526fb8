/- The pure statement of the law FnExactSourceNew: over numbers, texts and lists alone, what the law computes is true. Conditions: the sizes of what a machine holds. -/
import Derived.Test.YtlebkepfhdjnmabDFnExactSourceNew
namespace Go.Proofs.Ytlebkepfhdjnmab.A.Pure
open Go Go.Proofs Go.Proofs.YtlebkepfhdjnmabAL Go.RowKit
set_option linter.unusedVariables false
set_option linter.unusedSimpArgs false
set_option maxHeartbeats 1000000
theorem Xaj {α β : Type} (a : α) (f : α → Option β) : bnd (some a) f = f a := rfl
theorem Xf4 {β : Type} (x y : β) : sel true x y = x := rfl
theorem Xfh {β : Type} (x y : β) : sel false x y = y := rfl
theorem Xko {β : Type} (b : Bool) (x y : β) : sel (!b) x y = sel b y x := by cases b <;> rfl
theorem Xek (b x : Bool) : sel b (some x) (some false) = some (b && x) := by cases b <;> rfl
theorem Xr6 (b x : Bool) : sel b (some true) (some x) = some (b || x) := by cases b <;> rfl
theorem Xg7 (b x : Bool) : sel b (some x) (some true) = some (!b || x) := by cases b <;> rfl
theorem Xss {β : Type} (b : Bool) (x y : β) : sel b x y = if b = true then x else y := by cases b <;> rfl
theorem Xf3 {β : Type} {b : Bool} {x y : β} (h : b = true) : sel b x y = x := by subst h; rfl
theorem Xel {β : Type} {b : Bool} {x y : β} (h : b = false) : sel b x y = y := by subst h; rfl
theorem Xe3 {β : Type} {p : Prop} [Decidable p] {x y : β} (h : p) : sel (decide p) x y = x := by simp [h, sel]
theorem Xfn {β : Type} {p : Prop} [Decidable p] {x y : β} (h : ¬ p) : sel (decide p) x y = y := by simp [h, sel]
theorem Xso {β : Type} {c : Prop} [Decidable c] {k : Option β} (h : c) : req c k = k := if_pos h
theorem wk {e : Int} (h1 : -9223372036854775808 ≤ e) (h2 : e ≤ 9223372036854775807) : Xav .i64 e = e := by
 show wrap64 e = e
 unfold wrap64; omega
theorem rqA {β : Type} {c : Prop} [Decidable c] {k : Option β} (h : c := by omega) : req c k = k := Xso h
theorem syA {β : Type} {c : Prop} [Decidable c] {x y : β} (h : c := by omega) : sel (decide c) x y = x := Xe3 h
theorem snA {β : Type} {c : Prop} [Decidable c] {x y : β} (h : ¬ c := by omega) : sel (decide c) x y = y := Xfn h
theorem wkA {e : Int} (h1 : -9223372036854775808 ≤ e := by omega) (h2 : e ≤ 9223372036854775807 := by omega) : Xav .i64 e = e := wk h1 h2
theorem Xum {n : Int} (h : (Lit.int .i64 n).wf = true) : -9223372036854775808 ≤ n ∧ n ≤ 9223372036854775807 := by
 simp [Lit.wf, IntKind.min, IntKind.max, IntKind.signed, IntKind.bits] at h
 omega
theorem Xsf {P : Nat → Prop} (n : Nat) (h0 : P n) (hs : ∀ i, i < n → P (i + 1) → P i) : ∀ i, i ≤ n → P i := by
 intro i hi
 obtain ⟨k, rfl⟩ : ∃ k, n = i + k := ⟨n - i, by omega⟩
 clear hi
 induction k generalizing i with
 | zero => exact h0
 | succ k ih =>
  refine hs i (by omega) ?_
  exact ih (i + 1) (by rw [show i + 1 + k = i + (k + 1) by omega]; exact h0) (fun j hj => hs j (by omega))
theorem lgo {V O : Type} {f : V → Option (Lp V O)} {x y : V} {r : Option O} (h : f x = some (.go y)) (k : loop f y = r) : loop f x = r := by rw [Xdm h]; exact k
theorem Xqe {V O : Type} {f : V → Option (Lp V O)} {x : V} {o : O} (h : f x = some (.done o)) : loop f x = some o := Xbc h
theorem Xax (a b c : Int) : Xai a b c = some (decide (b ≤ a ∧ a ≤ c)) := by
 unfold Xai
 by_cases h : b ≤ a <;> simp [bnd, sel, h]
theorem Xbi (a b c : Int) : Xao a b c = some (decide (b ≤ a ∧ a ≤ c)) := by
 unfold Xao
 by_cases h : b ≤ a <;> simp [bnd, sel, h]
theorem Xst {α : Type} (a : List α) (x y : α) (b : List α) : (a ++ x :: b).set a.length y = a ++ y :: b := by
 induction a with
 | nil => rfl
 | cons z a ih => simp only [List.cons_append, List.length_cons, List.set_cons_succ, ih]
theorem Xh8 {α : Type} (a : List α) (x d : α) (b : List α) : (a ++ x :: b).getD a.length d = x := by
 induction a with
 | nil => rfl
 | cons z a ih => simp
theorem Xqt {f : Int → Option (Lp Int (Ou Unit Bool))} (n : Nat) (h : ∀ i : Nat, i < n → f i = some (.go ((i + 1 : Nat) : Int))) (h0 : f n = some (.done (.out ()))) : loop f 0 = some (.out ()) :=
 Xsf (P := fun i => loop f (i : Int) = some (.out ())) n (Xbc h0) (fun i hi ih => by rw [Xdm (h i hi)]; exact ih) 0 (by omega)
def Xjc (r : Rate) : Bool := decide (0 ≤ r.Qp ∧ r.Qp ≤ 40 ∧ 1 ≤ r.Target ∧ r.Target ≤ 100000 ∧ -8 * r.Target ≤ r.Debt ∧ r.Debt ≤ 8 * r.Target)
theorem Xj7 (r : Rate) : Xc6 r = some (Xjc r) := by
 unfold Xc6 Xjc
 simp only [Xax, Xaj]
 by_cases h1 : 0 ≤ r.Qp ∧ r.Qp ≤ 40
 ·
  rw [Xe3 h1]
  by_cases h2 : 1 ≤ r.Target ∧ r.Target ≤ 100000
  ·
   rw [Xe3 h2, wkA, wkA, Xaj]
   simp only [h1.1, h1.2, h2.1, h2.2, true_and]
  ·
   rw [Xfn h2, Xaj]; congr 1; symm; rw [decide_eq_false_iff_not]; exact fun h => h2 ⟨h.2.2.1, h.2.2.2.1⟩
 ·
  rw [Xfn h1, Xaj]; congr 1; symm; rw [decide_eq_false_iff_not]; exact fun h => h1 ⟨h.1, h.2.1⟩
def Xc9 (n : Int) : Bool := decide (1 ≤ n ∧ n ≤ 8)
def Xna : List Int → Int
 | [] => 0
 | x :: r => x + Xna r
def Xbs (l : List Int) : Bool := decide (1 ≤ l.length ∧ l.length ≤ 4) && l.all Xc9
def Xhe (l : List Int) : Int := if Xbs l = true then Xna l else 0
theorem Xfv : ∀ {l : List Int}, l.all Xc9 = true → (l.length : Int) ≤ Xna l ∧ Xna l ≤ 8 * l.length
 | [], _ => by simp [Xna]
 | x :: r, h => by
  rw [List.all_cons, Bool.and_eq_true] at h
  have := Xfv h.2
  have hx := h.1
  unfold Xc9 at hx
  simp only [decide_eq_true_eq] at hx
  rw [Xna, List.length_cons]
  omega
theorem Xhn (l : List Int) : 0 ≤ Xhe l ∧ Xhe l ≤ 32 := by
 unfold Xhe
 split
 ·
  rename_i h
  unfold Xbs at h
  rw [Bool.and_eq_true, decide_eq_true_eq] at h
  have := Xfv h.2
  omega
 ·
  omega
theorem Xcj (l : List Int) : Xbe l = some (Xhe l) := by
 unfold Xbe Xhe Xbs
 rw [Xr6, Xaj]
 by_cases h : 1 ≤ l.length ∧ l.length ≤ 4
 ·
  rw [Xel (by simp; omega), decide_eq_true h, Bool.true_and]
  have key : ∀ (r a : List Int) (t : Int), l = a ++ r → 0 ≤ t → t ≤ 8 * a.length → loop (Xa9 l) (t, (a.length : Int)) = some (if r.all Xc9 = true then .out (t + Xna r) else .ret 0) := by
   intro r
   induction r with
   | nil =>
    intro a t ha h0 h1
    rw [List.append_nil] at ha
    refine Xqe ?_
    unfold Xa9
    simp only
    rw [Xfn (by rw [ha]; omega)]
    simp [Xna]
   | cons x r ih =>
    intro a t ha h0 h1
    have hlen : a.length < l.length := by rw [ha]; simp
    have hx : l.getD a.length 0 = x := by rw [ha]; exact Xh8 a x _ r
    have hstep : Xa9 l (t, (a.length : Int)) = sel (Xc9 x) (some (.go (Xav .i64 (t + x), ((a.length + 1 : Nat) : Int)))) (some (.done (.ret 0))) := by
     unfold Xa9
     simp only [Int.toNat_natCast, hx]
     rw [syA, rqA, Xbi, Xaj, Xko, rqA, wkA (e := (a.length : Int) + 1)]
     rfl
    cases e : Xc9 x with
    | true =>
     rw [e] at hstep
     have hx2 := e
     unfold Xc9 at hx2
     simp only [decide_eq_true_eq] at hx2
     rw [wkA, Xf4] at hstep
     have := ih (a ++ [x]) (t + x) (by rw [ha]; simp) (by omega) (by simp; omega)
     rw [List.length_append, List.length_singleton] at this
     rw [Xdm hstep, this, List.all_cons, e, Bool.true_and, Xna, Int.add_assoc]
    | false =>
     rw [e, Xfh] at hstep
     rw [Xbc hstep, List.all_cons, e, Bool.false_and]; rfl
  have := key l [] 0 rfl (by omega) (by simp)
  simp only [List.length_nil, Int.zero_add] at this
  rw [show (((0 : Int), (0 : Int))) = (0, ((0 : Nat) : Int)) from rfl, this, Xaj]
  cases l.all Xc9 <;> rfl
 ·
  rw [Xf3 (by simp; omega), decide_eq_false h, Bool.false_and]; rfl
theorem Xc1 (l : List Int) (h : Xbs l = true) : Xbt l = some (Xna l) := by
 unfold Xbs at h
 rw [Bool.and_eq_true, decide_eq_true_eq] at h
 unfold Xbt
 have key : ∀ (r a : List Int) (t : Int), l = a ++ r → 0 ≤ t → t ≤ 8 * a.length → loop (Xb0 l) (t, (a.length : Int)) = some (t + Xna r) := by
  intro r
  induction r with
  | nil =>
   intro a t ha h0 h1
   rw [List.append_nil] at ha
   refine Xqe ?_
   unfold Xb0
   simp only
   rw [Xfn (by rw [ha]; omega)]
   simp [Xna]
  | cons x r ih =>
   intro a t ha h0 h1
   have hlen : a.length < l.length := by rw [ha]; simp
   have hx : l.getD a.length 0 = x := by rw [ha]; exact Xh8 a x _ r
   have e : Xc9 x = true := List.all_eq_true.1 h.2 x (by rw [ha]; simp)
   unfold Xc9 at e
   simp only [decide_eq_true_eq] at e
   have := ih (a ++ [x]) (t + x) (by rw [ha]; simp) (by omega) (by simp; omega)
   rw [List.length_append, List.length_singleton] at this
   rw [Xna, ← Int.add_assoc, ← this]
   refine Xdm ?_
   unfold Xb0
   simp only [Int.toNat_natCast, hx]
   rw [syA, rqA, wkA (e := (a.length : Int) + 1), wkA]
   rfl
 have := key l [] 0 rfl (by omega) (by simp)
 simp only [List.length_nil, Int.zero_add] at this
 rw [show (((0 : Int), (0 : Int))) = (0, ((0 : Nat) : Int)) from rfl, this, Xaj]
def Xde (s : Seq) : Int := Xhe s.Cols * Xhe s.Rows
theorem Xfp (s : Seq) : 0 ≤ Xde s ∧ Xde s ≤ 1024 := by
 unfold Xde
 have h1 := Xhn s.Cols
 have h2 := Xhn s.Rows
 refine ⟨Int.mul_nonneg h1.1 h2.1, ?_⟩
 calc Xhe s.Cols * Xhe s.Rows ≤ 32 * Xhe s.Rows := Int.mul_le_mul_of_nonneg_right h1.2 h2.1
  _ ≤ 1024 := by omega
theorem Xhd (s : Seq) : Xbo s = some (Xde s) := by
 have h := Xfp s
 unfold Xbo
 rw [Xcj, Xaj, Xcj, Xaj, wk (by show _ ≤ Xde s; omega) (by show Xde s ≤ _; omega)]
 rfl
theorem Xpr (s : Seq) (n : Nat) (hn : n = 0 ∨ n = 1) (l : List Int) (hl : ([s.Cols, s.Rows]).getD n Xeb = l) (h4 : l.length ≤ 4) : loop (Xan s (n : Int)) 0 = some (if l.all Xc9 = true then .out () else .ret 0) := by
 have key : ∀ (r a : List Int), l = a ++ r → loop (Xan s (n : Int)) (a.length : Int) = some (if r.all Xc9 = true then .out () else .ret 0) := by
  intro r
  induction r with
  | nil =>
   intro a ha
   rw [List.append_nil] at ha
   refine Xqe ?_
   unfold Xan
   rw [Int.toNat_natCast, hl, Xfn (by rw [ha]; omega)]; rfl
  | cons x r ih =>
   intro a ha
   have hlen : a.length < l.length := by rw [ha]; simp
   have hx : l.getD a.length 0 = x := by rw [ha]; exact Xh8 a x _ r
   have hstep : Xan s (n : Int) (a.length : Int) = sel (Xc9 x) (some (.go ((a.length + 1 : Nat) : Int))) (some (.done (.ret 0))) := by
    unfold Xan
    simp only [Int.toNat_natCast, hl, hx]
    rw [syA, rqA, Xax, Xaj, Xko, wkA]
    rfl
   cases e : Xc9 x with
   | true =>
    rw [e, Xf4] at hstep
    have := ih (a ++ [x]) (by rw [ha]; simp)
    rw [List.length_append, List.length_singleton] at this
    rw [Xdm hstep, this, List.all_cons, e, Bool.true_and]
   | false => rw [e, Xfh] at hstep; rw [Xbc hstep, List.all_cons, e, Bool.false_and]; rfl
 exact key l [] rfl
theorem Xg1 (s : Seq) (h1 : s.Cols.length ≤ maxLen) (h2 : s.Rows.length ≤ maxLen) : Xbl s = some (Xde s) := by
 have h := Xfp s
 unfold Xbl
 have step : ∀ (n : Nat) (l : List Int), n = 0 ∨ n = 1 → ([s.Cols, s.Rows]).getD n Xeb = l → Xas s (n : Int) = sel (Xbs l) (some (.go ((n + 1 : Nat) : Int))) (some (.done (.ret 0))) := by
  intro n l hn hl
  unfold Xas Xbs
  rw [Int.toNat_natCast, hl]
  simp only [List.length_cons, List.length_nil]
  rw [syA, rqA, rqA, Xax, Xaj, Xko]
  by_cases h4 : 1 ≤ l.length ∧ l.length ≤ 4
  ·
   rw [syA, Xpr s n hn l hl h4.2, Xaj, decide_eq_true h4, Bool.true_and, wkA]
   cases l.all Xc9 <;> rfl
  ·
   rw [snA, decide_eq_false h4, Bool.false_and, Xfh]
 have s0 := step 0 s.Cols (.inl rfl) rfl
 have s1 := step 1 s.Rows (.inr rfl) rfl
 have s2 : Xas s ((2 : Nat) : Int) = some (.done (.out ())) := by unfold Xas; rw [Xfn (by simp)]
 rw [show (0 : Int) = ((0 : Nat) : Int) from rfl]
 unfold Xde at h ⊢
 unfold Xhe at h ⊢
 cases e0 : Xbs s.Cols with
 | false => rw [e0, Xfh] at s0; rw [Xbc s0, Xaj]; simp
 | true =>
  rw [e0, Xf4] at s0
  rw [Xdm s0]
  cases e1 : Xbs s.Rows with
  | false => rw [e1, Xfh] at s1; rw [Xbc s1, Xaj]; simp
  | true =>
   rw [e1, Xf4] at s1
   rw [Xdm s1, Xbc s2, Xaj]
   simp only
   rw [e0, e1, if_pos rfl, if_pos rfl] at h
   rw [Xc1 _ e0, Xaj, Xc1 _ e1, Xaj, wkA]
   simp
def Xco (n : Int) : Int := if n = 1 then 16 else if n = 2 then 64 else if n = 3 then 256 else 0
theorem Xfj (n : Int) : Xa2 n = some (Xco n) := by
 unfold Xa2 Xco
 simp only [Xss, beq_iff_eq]
 repeat' split
 all_goals rfl
theorem Xfg (n : Int) : Xa0 n = some (Xco n) := by
 unfold Xa0 Xco
 rw [Xax, Xaj, Xko]
 by_cases h : 1 ≤ n ∧ n ≤ 3
 ·
  rw [Xe3 h, wkA, Xso (by simp only [List.length_cons, List.length_nil]; omega), Xso (by simp only [List.length_cons, List.length_nil]; omega)]
  rcases (show n = 1 ∨ n = 2 ∨ n = 3 by omega) with rfl | rfl | rfl <;> rfl
 ·
  rw [Xfn h, if_neg (by omega), if_neg (by omega), if_neg (by omega)]
def Xdq (s : Seq) : Bool := decide (1 ≤ Xde s ∧ Xde s ≤ Xco s.Level) && decide (3 ≤ s.Bits ∧ s.Bits ≤ 8)
theorem Xen (s : Seq) : Xce s = some (Xdq s) := by
 unfold Xce Xdq
 simp only [Xhd, Xfj, Xbi, Xaj, Xek]
theorem Xef (s : Seq) (h1 : s.Cols.length ≤ maxLen) (h2 : s.Rows.length ≤ maxLen) : Xb6 s = some (Xdq s) := by
 unfold Xb6 Xdq
 simp only [Xg1 s h1 h2, Xfg, Xax, Xaj, Xek]
theorem Xdb {s : Seq} (h : Xdq s = true) : Xbs s.Cols = true ∧ Xbs s.Rows = true ∧ 3 ≤ s.Bits ∧ s.Bits ≤ 8 := by
 unfold Xdq at h
 rw [Bool.and_eq_true, decide_eq_true_eq, decide_eq_true_eq] at h
 obtain ⟨⟨h1, _⟩, h3⟩ := h
 unfold Xde Xhe at h1
 refine ⟨?_, ?_, h3⟩
 ·
  refine Classical.byContradiction fun e => ?_
  rw [if_neg e, Int.zero_mul] at h1; omega
 ·
  refine Classical.byContradiction fun e => ?_
  rw [if_neg e, Int.mul_zero] at h1; omega
def Xgg (c r : List Int) : Int := if Xdq ⟨1, 3, c, r⟩ = true then 1 else if Xdq ⟨2, 3, c, r⟩ = true then 2 else if Xdq ⟨3, 3, c, r⟩ = true then 3 else 0
theorem Xla (c r : List Int) (f : Int → Option (Lp Int (Ou Unit Int))) (h : ∀ n : Int, n ≤ 3 → 1 ≤ n → f n = sel (Xdq ⟨n, 3, c, r⟩) (some (.done (.ret n))) (some (.go (n + 1)))) (h4 : f 4 = some (.done (.out ()))) :
  (bnd (loop f 1) fun o => match o with | .out _ => some 0 | .ret r => some r) = some (Xgg c r) := by
 have h1 := h 1 (by omega) (by omega)
 have h2 := h 2 (by omega) (by omega)
 have h3 := h 3 (by omega) (by omega)
 unfold Xgg
 cases e1 : Xdq ⟨1, 3, c, r⟩ with
 | true => rw [e1, Xf4] at h1; rw [Xbc h1]; rfl
 | false =>
  rw [e1, Xfh] at h1
  rw [Xdm h1]
  cases e2 : Xdq ⟨2, 3, c, r⟩ with
  | true => rw [e2, Xf4] at h2; rw [show (1 : Int) + 1 = 2 from rfl, Xbc h2]; rfl
  | false =>
   rw [e2, Xfh] at h2
   rw [show (1 : Int) + 1 = 2 from rfl, Xdm h2]
   cases e3 : Xdq ⟨3, 3, c, r⟩ with
   | true => rw [e3, Xf4] at h3; rw [show (2 : Int) + 1 = 3 from rfl, Xbc h3]; rfl
   | false =>
    rw [e3, Xfh] at h3
    rw [show (2 : Int) + 1 = 3 from rfl, Xdm h3, show (3 : Int) + 1 = 4 from rfl, Xbc h4]; rfl
theorem Xh2 (c r : List Int) : Xb3 c r = some (Xgg c r) := by
 unfold Xb3
 refine Xla c r _ (fun n h1 h2 => ?_) ?_
 ·
  unfold Xbr
  rw [Xe3 h1, Xen, Xaj, wkA]
 ·
  unfold Xbr; rw [snA]
theorem Xhp (c r : List Int) (h1 : c.length ≤ maxLen) (h2 : r.length ≤ maxLen) : Xbw c r = some (Xgg c r) := by
 unfold Xbw
 refine Xla c r _ (fun n h3 h4 => ?_) ?_
 ·
  unfold Xbp
  rw [Xe3 h3, Xef ⟨n, 3, c, r⟩ h1 h2, Xaj, wkA]
 ·
  unfold Xbp; rw [snA]
def Xeo (s : Seq) : Int := if Xdq s = true then (s.Cols.length : Int) * s.Rows.length else 0
theorem Xjb {l : List Int} (h : Xbs l = true) : 1 ≤ l.length ∧ l.length ≤ 4 := by
 unfold Xbs at h; rw [Bool.and_eq_true, decide_eq_true_eq] at h; exact h.1
theorem Xjv {s : Seq} (h : Xdq s = true) : 1 ≤ (s.Cols.length : Int) * s.Rows.length ∧ (s.Cols.length : Int) * s.Rows.length ≤ 16 := by
 obtain ⟨h1, h2, _⟩ := Xdb h
 have a := Xjb h1
 have b := Xjb h2
 have e : ∀ x y : Nat, 1 ≤ x → x ≤ 4 → 1 ≤ y → y ≤ 4 → 1 ≤ x * y ∧ x * y ≤ 16 := by
  intro x y h1 h2 h3 h4
  rcases (show x = 1 ∨ x = 2 ∨ x = 3 ∨ x = 4 by omega) with rfl | rfl | rfl | rfl <;> omega
 have := e _ _ a.1 a.2 b.1 b.2
 rw [← Int.natCast_mul]; omega
theorem Xjt (s : Seq) : Xcq s = some (Xeo s) := by
 unfold Xcq Xeo
 rw [Xen, Xaj, Xko]
 cases h : Xdq s with
 | false => rfl
 | true => have := Xjv h; rw [Xf4, wkA, if_pos rfl]
theorem Xiu (s : Seq) (h1 : s.Cols.length ≤ maxLen) (h2 : s.Rows.length ≤ maxLen) : Xck s = some (Xeo s) := by
 unfold Xck Xeo
 rw [Xef s h1 h2, Xaj, Xko]
 cases h : Xdq s with
 | false => rfl
 | true => have := Xjv h; rw [Xf4, wkA, if_pos rfl]
def Xg8 (s : Seq) : Int × Int := if Xdq s = true then (8 * Xna s.Cols, 8 * Xna s.Rows) else (0, 0)
theorem Xly {l : List Int} (h : Xbs l = true) : 1 ≤ Xna l ∧ Xna l ≤ 32 := by
 unfold Xbs at h
 rw [Bool.and_eq_true, decide_eq_true_eq] at h
 have := Xfv h.2
 omega
theorem Xk0 (s : Seq) : Xdd s = some (Xg8 s) := by
 unfold Xdd Xg8
 rw [Xen, Xaj, Xko]
 cases h : Xdq s with
 | false => rfl
 | true =>
  obtain ⟨h1, h2, _⟩ := Xdb h
  have a := Xly h1
  have b := Xly h2
  rw [Xf4, Xcj, Xaj, Xcj, Xaj, if_pos rfl]
  unfold Xhe
  rw [if_pos h1, if_pos h2, wkA, wkA]
theorem Xkb (s : Seq) (h1 : s.Cols.length ≤ maxLen) (h2 : s.Rows.length ≤ maxLen) : Xc7 s = some (Xg8 s) := by
 unfold Xc7 Xg8
 rw [Xef s h1 h2, Xaj, Xko]
 cases h : Xdq s with
 | false => rfl
 | true =>
  obtain ⟨h1, h2, _⟩ := Xdb h
  have a := Xly h1
  have b := Xly h2
  rw [Xf4, Xc1 _ h1, Xaj, Xc1 _ h2, Xaj, if_pos rfl, wkA, wkA]
def Xoa (p : Par) : Bool := decide (0 ≤ p.Qp ∧ p.Qp ≤ 40) && !(p.Large && p.Exact)
theorem Xml (p : Par) : Xd8 p = some (Xoa p) := by
 unfold Xd8 Xoa
 rw [Xbi, Xaj, Xg7, Xek, Xaj]
 cases p.Large <;> cases p.Exact <;> rfl
theorem Xlt (p : Par) : Xdu p = some (Xoa p) := by
 unfold Xdu Xoa
 rw [Xax, Xaj, Xg7, Xek, Xaj]
 cases p.Large <;> cases p.Exact <;> rfl
def Xqm (p : Pic) : Bool := decide (1 ≤ p.Wide ∧ p.Wide ≤ 256) && (decide (1 ≤ p.High ∧ p.High ≤ 256) && ((p.Dots.size : Int) == p.Wide * p.High))
theorem Xk8 {w h : Int} (h1 : 1 ≤ w ∧ w ≤ 256) (h2 : 1 ≤ h ∧ h ≤ 256) : 1 ≤ w * h ∧ w * h ≤ 65536 := by
 have a : w * 1 ≤ w * h := Int.mul_le_mul_of_nonneg_left h2.1 (by omega)
 have b : w * h ≤ 256 * h := Int.mul_le_mul_of_nonneg_right h1.2 (by omega)
 omega
theorem Xmn (p : Pic) : Xd9 p = some (Xqm p) := by
 unfold Xd9 Xqm
 simp only [Xbi, Xaj, Xek]
 by_cases h1 : 1 ≤ p.Wide ∧ p.Wide ≤ 256
 ·
  by_cases h2 : 1 ≤ p.High ∧ p.High ≤ 256
  ·
   have := Xk8 h1 h2
   rw [wkA]
  ·
   rw [decide_eq_false h2, Bool.false_and, Bool.false_and]
 ·
  rw [decide_eq_false h1, Bool.false_and, Bool.false_and]
theorem Xlv (p : Pic) : Xdv p = some (Xqm p) := by
 unfold Xdv Xqm
 simp only [Xax, Xaj, Xek]
 by_cases h1 : 1 ≤ p.Wide ∧ p.Wide ≤ 256
 ·
  by_cases h2 : 1 ≤ p.High ∧ p.High ≤ 256
  ·
   have := Xk8 h1 h2
   rw [wkA]
  ·
   rw [decide_eq_false h2, Bool.false_and, Bool.false_and]
 ·
  rw [decide_eq_false h1, Bool.false_and, Bool.false_and]
def Xrd (p : Pic) (s : Seq) : Bool := Xqm p && ((p.Wide == (Xg8 s).1) && (p.High == (Xg8 s).2))
theorem Xm8 (p : Pic) (s : Seq) (h1 : s.Cols.length ≤ maxLen) (h2 : s.Rows.length ≤ maxLen) : Xez p s = some (Xrd p s) := by
 unfold Xez Xrd
 simp only [Xkb s h1 h2, Xlv, Xaj, Xek]
theorem Xkw (r : Rate) : Xdc r = some (Xjc r) := by
 unfold Xdc Xjc
 simp only [Xbi, Xaj]
 by_cases h1 : 0 ≤ r.Qp ∧ r.Qp ≤ 40
 ·
  rw [Xe3 h1]
  by_cases h2 : 1 ≤ r.Target ∧ r.Target ≤ 100000
  ·
   rw [Xe3 h2, wkA, wkA, Xaj]
   simp only [h1.1, h1.2, h2.1, h2.2, true_and]
  ·
   rw [Xfn h2, Xaj]; congr 1; symm; rw [decide_eq_false_iff_not]; exact fun h => h2 ⟨h.2.2.1, h.2.2.2.1⟩
 ·
  rw [Xfn h1, Xaj]; congr 1; symm; rw [decide_eq_false_iff_not]; exact fun h => h1 ⟨h.1, h.2.1⟩
def Xc3 (s : Xau) : Bool :=
 decide (Xeo s.Seq = 1) && Xoa s.Par && Xjc s.Rate && decide (0 ≤ s.Frame ∧ s.Frame < 2 ^ s.Seq.Bits.toNat) && decide ((1 ≤ s.Every ∧ s.Every ≤ 1000) ∧ (0 ≤ s.Since ∧ s.Since ≤ 1000) ∧ (0 ≤ s.Reach ∧ s.Reach ≤ 4)) &&
 (if s.Has = true then Xrd s.Ref s.Seq else decide (s.Ref.Wide = 0 ∧ s.Ref.High = 0 ∧ s.Ref.Dots.size = 0))
theorem Xok {b : Int} (h : 3 ≤ b ∧ b ≤ 8) : (2 : Int) ^ min b.toNat (IntKind.bits .i64) = 2 ^ b.toNat ∧ (8 : Int) ≤ 2 ^ b.toNat ∧ (2 : Int) ^ b.toNat ≤ 256 := by
 rcases (show b = 3 ∨ b = 4 ∨ b = 5 ∨ b = 6 ∨ b = 7 ∨ b = 8 by omega) with rfl | rfl | rfl | rfl | rfl | rfl <;> decide
theorem Xnu {s : Seq} (h : Xeo s = 1) : Xdq s = true := by
 unfold Xeo at h
 refine Classical.byContradiction fun e => ?_
 rw [if_neg e] at h; cases h
theorem Xqu (b : ByteArray) : (b.toList == (⟨#[]⟩ : ByteArray).toList) = decide (b.size = 0) := by
 rw [ByteArray.toList_eq, ByteArray.toList_eq, Bool.eq_iff_iff]
 obtain ⟨⟨l⟩⟩ := b
 show (l == []) = true ↔ decide (l.length = 0) = true
 cases l <;> simp
theorem Xh4 (s : Xau) (hb : (Lit.int .i64 s.Seq.Bits).wf = true) : Xb4 s = some (Xc3 s) := by
 have hb' := Xum hb
 unfold Xb4 Xc3
 rw [Xjt, Xaj]
 by_cases h1 : Xeo s.Seq = 1
 ·
  have hs := (Xdb (Xnu h1)).2.2
  have hp := Xok hs
  have e64 : Xav .u64 s.Seq.Bits = s.Seq.Bits := by
   show IntKind.wrap .u64 s.Seq.Bits = _
   simp [IntKind.wrap, IntKind.signed, IntKind.bits]; omega
  rw [Xel (by simp [h1]), e64, rqA, hp.1, wkA, Xml, Xaj, Xkw, Xaj, Xr6, Xg7, Xg7, Xaj]
  simp only [Xbi, Xaj, Xg7]
  rw [decide_eq_true h1, Bool.true_and]
  cases hpar : Xoa s.Par with
  | false => rfl
  | true =>
   cases hr : Xjc s.Rate with
   | false => rfl
   | true =>
    by_cases hf : 0 ≤ s.Frame ∧ s.Frame < 2 ^ s.Seq.Bits.toNat
    ·
     rw [Xel (by simp; omega), decide_eq_true hf]
     by_cases h3 : (1 ≤ s.Every ∧ s.Every ≤ 1000) ∧ (0 ≤ s.Since ∧ s.Since ≤ 1000) ∧ (0 ≤ s.Reach ∧ s.Reach ≤ 4)
     ·
      rw [Xel (by simp; omega), decide_eq_true h3, Xk0, Xaj]
      cases s.Has with
      | true =>
       rw [Xf4]
       simp only [Xmn, Xaj, Xek, Xrd]
       rfl
      | false =>
       rw [Xfh]
       simp only [Xaj, Xek]
       congr 1
       rw [Bool.eq_iff_iff]; simp
     ·
      rw [Xf3 (by simp; omega), decide_eq_false h3]; simp
    ·
     rw [Xf3 (by simp; omega), decide_eq_false hf]; simp
 ·
  rw [Xf3 (by simpa using h1), Xaj, Xf4, decide_eq_false h1]; simp
theorem Xhr (s : Xau) (h1 : s.Seq.Cols.length ≤ maxLen) (h2 : s.Seq.Rows.length ≤ maxLen) : Xbx s = some (Xc3 s) := by
 unfold Xbx Xc3
 rw [Xiu _ h1 h2, Xaj]
 by_cases ht : Xeo s.Seq = 1
 ·
  have hs := (Xdb (Xnu ht)).2.2
  have hp := Xok hs
  rw [Xel (by simp [ht]), rqA, hp.1, wkA (e := 1 * 2 ^ s.Seq.Bits.toNat), wkA, Xlt, Xaj, Xj7, Xaj]
  simp only [Xax, Xaj, Xg7]
  rw [decide_eq_true ht, Bool.true_and]
  cases hpar : Xoa s.Par with
  | false => rfl
  | true =>
   cases hr : Xjc s.Rate with
   | false => rfl
   | true =>
    by_cases hf : 0 ≤ s.Frame ∧ s.Frame < 2 ^ s.Seq.Bits.toNat
    ·
     rw [decide_eq_true hf]
     by_cases h3 : (1 ≤ s.Every ∧ s.Every ≤ 1000) ∧ (0 ≤ s.Since ∧ s.Since ≤ 1000) ∧ (0 ≤ s.Reach ∧ s.Reach ≤ 4)
     ·
      rw [Xel (by simp; omega), decide_eq_true h3, Xm8 _ _ h1 h2, Xaj, Xqu]
      cases s.Has with
      | true => rfl
      | false =>
       rw [Xfh]
       congr 1
       rw [Bool.eq_iff_iff]; simp
     ·
      rw [Xf3 (by simp; omega), decide_eq_false h3]; simp
    ·
     rw [Xf3 (by simp; omega), decide_eq_false hf]; simp
 ·
  rw [Xf3 (by simpa using ht), Xaj, Xf4, decide_eq_false ht]; simp
theorem Xep (l : List Int) (hl : l.length ≤ 9223372036854775806) : Xb8 l l = some true := by
 unfold Xb8
 rw [Xel (by simp), Xqt l.length (f := Xbm l l) (by
  intro i hi
  unfold Xbm
  rw [syA, rqA, rqA, Xel (by simp), wkA]
  rfl) (by unfold Xbm; rw [snA])]
 rfl
def Xd4 (k : Int) : List Int → List Int
 | [] => []
 | _ :: r => k :: Xd4 (k + 1) r
theorem Xnh : ∀ (l : List Int) (k : Int), (Xd4 k l).length = l.length
 | [], _ => rfl
 | _ :: r, k => by rw [Xd4, List.length_cons, List.length_cons, Xnh r]
theorem Xeu (l : List Int) (k : Int) (h0 : 0 < k) (h1 : k ≤ 1000000000) (hl : l.length ≤ 100000000) : Xbh l k = some (k + l.length, Xd4 k l) := by
 unfold Xbh
 have key : ∀ (r a : List Int) (j : Int), 0 < j → j + r.length ≤ 2000000000 → a.length + r.length ≤ 100000000 → loop Xa6 (j, (a.length : Int), a ++ r) = some (j + r.length, a ++ Xd4 j r) := by
  intro r
  induction r with
  | nil =>
   intro a j hj1 hj2 hl
   refine Xqe ?_
   unfold Xa6
   simp only [List.append_nil]
   rw [snA]
   simp [Xd4]
  | cons p r ih =>
   intro a j hj1 hj2 hl
   simp only [List.length_cons] at hj2 hl ⊢
   have hcl : ∀ x : Int, (a ++ x :: r).length = a.length + (r.length + 1) := fun x => by simp
   refine lgo (y := (j + 1, ((a ++ [j]).length : Int), (a ++ [j]) ++ r)) ?_ ?_
   ·
    unfold Xa6
    simp only [Int.toNat_natCast, Xst, hcl]
    rw [syA, rqA, rqA, wkA (e := j + 1), wkA]
    simp
   ·
    rw [ih _ (j + 1) (by omega) (by omega) (by simp; omega)]
    simp only [Xd4, List.append_assoc, List.singleton_append]
    congr 2
    omega
 have := key l [] k h0 (by omega) (by simp; omega)
 simp only [List.length_nil, List.nil_append] at this
 rw [show ((k, 0, l) : Int × Int × List Int) = (k, ((0 : Nat) : Int), l) from rfl, this]
 rfl
theorem Xes (l : List Int) (k : Int) (h0 : 0 < k) (h1 : k ≤ 1000000000) (hl : l.length ≤ 100000000) : Xbg (Xd4 k l) k = some (k + l.length) := by
 unfold Xbg
 have key : ∀ (r a : List Int) (j : Int), 0 < j → j + r.length ≤ 2000000000 → a.length + r.length ≤ 100000000 → loop (Xa5 (a ++ Xd4 j r)) (j, (a.length : Int)) = some (.out (j + r.length)) := by
  intro r
  induction r with
  | nil =>
   intro a j hj1 hj2 hl
   refine Xqe ?_
   unfold Xa5
   simp only [Xd4, List.append_nil]
   rw [snA]
   simp
  | cons p r ih =>
   intro a j hj1 hj2 hl
   simp only [List.length_cons] at hj2 hl ⊢
   have hcl : ∀ (x : Int) (r : List Int), (a ++ x :: r).length = a.length + (r.length + 1) := fun x r => by simp
   refine lgo (y := (j + 1, ((a ++ [j]).length : Int))) ?_ ?_
   ·
    unfold Xa5
    simp only [Xd4, Int.toNat_natCast, Xh8, hcl, Xnh]
    rw [syA, rqA, Xel (by simp), wkA (e := j + 1), wkA]
    simp
   ·
    have := ih (a ++ [j]) (j + 1) (by omega) (by omega) (by simp; omega)
    simp only [Xd4]
    rw [List.append_assoc, List.singleton_append] at this
    rw [this]
    congr 2
    omega
 have := key l [] k h0 (by omega) (by simp; omega)
 simp only [List.length_nil, List.nil_append] at this
 rw [show ((k, 0) : Int × Int) = (k, ((0 : Nat) : Int)) from rfl, this]
 rfl
theorem Xi1 (s : Seq) (h1 : s.Cols.length ≤ 9223372036854775806) (h2 : s.Rows.length ≤ 9223372036854775806) : Xd1 s s = some true := by
 unfold Xd1
 simp only [Xep _ h1, Xep _ h2, Xaj, bne_self_eq_false, Xfh, Bool.not_true]
theorem Xi5 (s : Seq) (k : Int) (h0 : 0 < k) (h1 : k ≤ 100000000) (hc : s.Cols.length ≤ 100000000) (hr : s.Rows.length ≤ 100000000) : Xcm s k = some (k + s.Cols.length + s.Rows.length, (⟨s.Level, s.Bits, Xd4 k s.Cols, Xd4 (k + s.Cols.length) s.Rows⟩ : Seq)) := by
 unfold Xcm
 rw [Xeu _ _ h0 (by omega) hc, Xaj, Xeu _ _ (by omega) (by omega) hr, Xaj]
theorem Xi3 (s : Seq) (c r : List Int) (k : Int) (h0 : 0 < k) (h1 : k ≤ 100000000) (hc : c.length ≤ 100000000) (hr : r.length ≤ 100000000) (ec : s.Cols = Xd4 k c) (er : s.Rows = Xd4 (k + c.length) r) : Xcl s k = some (k + c.length + r.length) := by
 unfold Xcl
 rw [ec, Xes _ _ h0 (by omega) hc, Xaj, snA, er, Xes _ _ (by omega) (by omega) hr, Xaj, snA]
theorem Xix (p : Par) : Xdz p p = some true := by
 unfold Xdz
 simp only [bne_self_eq_false, Xfh, beq_self_eq_true, Bool.not_true]
theorem Xhu (p : Rate) : Xc8 p p = some true := by
 unfold Xc8
 simp only [bne_self_eq_false, Xfh]
theorem Xiy (p : Pic) : Xd0 p p = some true := by
 unfold Xd0
 simp only [bne_self_eq_false, Xfh, beq_self_eq_true, Bool.not_true]
theorem Xgd (s : Xau) (h1 : s.Seq.Cols.length ≤ 9223372036854775806) (h2 : s.Seq.Rows.length ≤ 9223372036854775806) : Xbf s s = some true := by
 unfold Xbf
 simp only [Xi1 _ h1 h2, Xix, Xhu, Xiy, Xaj, bne_self_eq_false, Xfh, beq_self_eq_true, Bool.not_true]
def Xn2 : Xau := ⟨⟨0, 0, [], []⟩, ⟨0, false, false, false⟩, ⟨0, 0, 0⟩, 0, 0, 0, 0, false, ⟨0, 0, ⟨#[]⟩⟩⟩
def Xc5 (c r b : Int) (p : Par) (t : Rate) (e n : Int) : Xau := ⟨⟨Xgg [c] [r], b, [c], [r]⟩, p, t, 0, 0, e, n, false, ⟨0, 0, ⟨#[]⟩⟩⟩
def Xcp (c r b : Int) (p : Par) (t : Rate) (e n : Int) : Xau × Bool := if Xc3 (Xc5 c r b p t e n) = true then (Xc5 c r b p t e n, true) else (Xn2, false)
theorem FnExactSourceNew {p0 p1 p2 : Int} {p3 : Par} {p4 : Rate} {p5 p6 : Int} (h0 : (Lit.int .i64 p0).wf = true) (h1 : (Lit.int .i64 p1).wf = true) (h2 : (Lit.int .i64 p2).wf = true) (h3 : Xtf p3) (h4 : Xr4 p4) (h5 : (Lit.int .i64 p5).wf = true) (h6 : (Lit.int .i64 p6).wf = true) : Xaz p0 p1 p2 p3 p4 p5 p6 = some true := by
 have hm : maxLen = 9223372036854775807 := rfl
 have es : Xbn p0 p1 p2 p3 p4 p5 p6 = some (Xcp p0 p1 p2 p3 p4 p5 p6) := by
  unfold Xbn Xcp
  rw [Xh2, Xaj, Xh4 _ h2, Xaj, Xko]
  show sel (Xc3 (Xc5 p0 p1 p2 p3 p4 p5 p6)) _ _ = _
  cases Xc3 (Xc5 p0 p1 p2 p3 p4 p5 p6) <;> rfl
 have ei : Xa7 p0 p1 p2 p3 p4 p5 p6 = some (Xcp p0 p1 p2 p3 p4 p5 p6) := by
  unfold Xa7 Xcp
  rw [Xhp _ _ (by simp [hm]) (by simp [hm]), Xaj, Xhr _ (by simp [hm]) (by simp [hm]), Xaj, Xko]
  show sel (Xc3 (Xc5 p0 p1 p2 p3 p4 p5 p6)) _ _ = _
  cases Xc3 (Xc5 p0 p1 p2 p3 p4 p5 p6) <;> rfl
 unfold Xaz
 simp only [Xc4, Xb9, Xaj, es, ei]
 have hl : (Xcp p0 p1 p2 p3 p4 p5 p6).1.Seq.Cols.length ≤ 1 ∧ (Xcp p0 p1 p2 p3 p4 p5 p6).1.Seq.Rows.length ≤ 1 := by
  unfold Xcp; split
  ·
   exact ⟨Nat.le_refl _, Nat.le_refl _⟩
  ·
   exact ⟨Nat.zero_le _, Nat.zero_le _⟩
 generalize Xcp p0 p1 p2 p3 p4 p5 p6 = g at hl ⊢
 obtain ⟨g, b⟩ := g
 simp only at hl ⊢
 have hmk : Xbb g 1 = some ((1 : Int) + g.Seq.Cols.length + g.Seq.Rows.length, (⟨(⟨g.Seq.Level, g.Seq.Bits, Xd4 1 g.Seq.Cols, Xd4 ((1 : Int) + g.Seq.Cols.length) g.Seq.Rows⟩ : Seq), g.Par, g.Rate, g.Frame, g.Since, g.Every, g.Reach, g.Has, g.Ref⟩ : Xau)) := by
  unfold Xbb
  rw [Xi5 _ _ (by omega) (by omega) (by omega) (by omega), Xaj]
 have hhd : Xa1 (⟨(⟨g.Seq.Level, g.Seq.Bits, Xd4 1 g.Seq.Cols, Xd4 ((1 : Int) + g.Seq.Cols.length) g.Seq.Rows⟩ : Seq), g.Par, g.Rate, g.Frame, g.Since, g.Every, g.Reach, g.Has, g.Ref⟩ : Xau) 1 = some ((1 : Int) + g.Seq.Cols.length + g.Seq.Rows.length) := by
  unfold Xa1
  rw [Xi3 _ g.Seq.Cols g.Seq.Rows 1 (by omega) (by omega) (by omega) (by omega) rfl rfl, Xaj, snA]
 simp only [Xgd g (by omega) (by omega), Xaj, Xf4, beq_self_eq_true, Bool.not_true, Xfh, hmk, hhd, bne_self_eq_false]
 rw [snA, snA]
end Go.Proofs.Ytlebkepfhdjnmab.A.Pure
