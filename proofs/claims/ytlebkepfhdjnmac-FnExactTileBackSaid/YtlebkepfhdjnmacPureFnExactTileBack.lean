/- The pure statement of the law FnExactTileBack: over numbers, texts and lists alone, what the law computes is true. Conditions: the sizes of what a machine holds. -/
import Derived.Test.YtlebkepfhdjnmacDFnExactTileBack
namespace Go.Proofs.Ytlebkepfhdjnmac.A.Pure
open Go Go.Proofs Go.Proofs.YtlebkepfhdjnmacAL Go.RowKit
set_option linter.unusedVariables false
set_option linter.unusedSimpArgs false
set_option maxHeartbeats 1000000
theorem Xag {α β : Type} (a : α) (f : α → Option β) : bnd (some a) f = f a := rfl
theorem Xl9 {α β : Type} {x : Option α} {a : α} {f : α → Option β} (h : x = some a) : bnd x f = f a := by subst h; rfl
theorem Xa5 {β : Type} (x y : β) : sel true x y = x := rfl
theorem Xa7 {β : Type} (x y : β) : sel false x y = y := rfl
theorem Xfy (b x : Bool) : sel b (some x) (some false) = some (b && x) := by cases b <;> rfl
theorem Yhs (b x : Bool) : sel b (some true) (some x) = some (b || x) := by cases b <;> rfl
theorem Ydz (b x : Bool) : sel b (some x) (some true) = some (!b || x) := by cases b <;> rfl
theorem Yd0 {β : Type} (b : Bool) (x y : β) : sel b (some x) (some y) = some (sel b x y) := by cases b <;> rfl
theorem Yav {β : Type} (b : Bool) (x y : β) : sel b x y = if b = true then x else y := by cases b <;> rfl
theorem Yci {β : Type} (p : Prop) [Decidable p] (x y : β) : sel (decide p) x y = if p then x else y := by
 by_cases h : p <;> simp [h, sel]
theorem Xhd {β : Type} {b : Bool} {x y : β} (h : b = true) : sel b x y = x := by subst h; rfl
theorem Xdr {β : Type} {b : Bool} {x y : β} (h : b = false) : sel b x y = y := by subst h; rfl
theorem Xhe {β : Type} {p : Prop} [Decidable p] {x y : β} (h : p) : sel (decide p) x y = x := by simp [h, sel]
theorem Xaz {β : Type} {p : Prop} [Decidable p] {x y : β} (h : ¬ p) : sel (decide p) x y = y := by simp [h, sel]
theorem Xb7 {β : Type} {c : Prop} [Decidable c] {k : Option β} (h : c) : req c k = k := if_pos h
theorem wk {e : Int} (h1 : -9223372036854775808 ≤ e) (h2 : e ≤ 9223372036854775807) : Xaa .i64 e = e := by
 show wrap64 e = e
 unfold wrap64; omega
theorem rqA {β : Type} {c : Prop} [Decidable c] {k : Option β} (h : c := by omega) : req c k = k := Xb7 h
theorem syA {β : Type} {c : Prop} [Decidable c] {x y : β} (h : c := by omega) : sel (decide c) x y = x := Xhe h
theorem snA {β : Type} {c : Prop} [Decidable c] {x y : β} (h : ¬ c := by omega) : sel (decide c) x y = y := Xaz h
theorem wkA {e : Int} (h1 : -9223372036854775808 ≤ e := by omega) (h2 : e ≤ 9223372036854775807 := by omega) : Xaa .i64 e = e := wk h1 h2
theorem Xb3 {a b : Int} (h : 0 ≤ a) : Int.tmod a b = a % b := Int.tmod_eq_emod_of_nonneg h
theorem Xbu {a b : Int} (h : 0 ≤ a) : Int.tdiv a b = a / b := Int.tdiv_eq_ediv_of_nonneg h
theorem Xhz {P : Nat → Prop} (n : Nat) (h0 : P n) (hs : ∀ i, i < n → P (i + 1) → P i) : ∀ i, i ≤ n → P i := by
 intro i hi
 obtain ⟨k, rfl⟩ : ∃ k, n = i + k := ⟨n - i, by omega⟩
 clear hi
 induction k generalizing i with
 | zero => exact h0
 | succ k ih =>
  refine hs i (by omega) ?_
  exact ih (i + 1) (by rw [show i + 1 + k = i + (k + 1) by omega]; exact h0) (fun j hj => hs j (by omega))
theorem lgo {V O : Type} {f : V → Option (Lp V O)} {x y : V} {r : Option O} (h : f x = some (.go y)) (k : loop f y = r) : loop f x = r := by rw [Xpf h]; exact k
theorem Xnz {V O : Type} {f : V → Option (Lp V O)} {x : V} {o : O} (h : f x = some (.done o)) : loop f x = some o := Xg2 h
theorem Xb8 {α : Type} (l : List α) (i : Nat) (h : i < l.length) (d : α) : l.getD i d = l[i] := by
 simp [List.getD_eq_getElem?_getD, List.getElem?_eq_getElem h]
theorem Xar (a b c : Int) : Xao a b c = some (decide (b ≤ a ∧ a ≤ c)) := by
 unfold Xao
 by_cases h : b ≤ a <;> simp [bnd, sel, h]
theorem Xai (a b c : Int) : Xaq a b c = some (decide (b ≤ a ∧ a ≤ c)) := by
 unfold Xaq
 by_cases h : b ≤ a <;> simp [bnd, sel, h]
theorem Yd1 {α : Type} (a : List α) (x y : α) (b : List α) : (a ++ x :: b).set a.length y = a ++ y :: b := by
 induction a with
 | nil => rfl
 | cons z a ih => simp only [List.cons_append, List.length_cons, List.set_cons_succ, ih]
theorem Xw4 {α : Type} (a : List α) (x d : α) (b : List α) : (a ++ x :: b).getD a.length d = x := by
 induction a with
 | nil => rfl
 | cons z a ih => simp
theorem Xyv {α β : Type} (l : List α) (g : α → β) (d : α) (e : β) {f : (Int × List β) → Option (Lp (Int × List β) (List β))}
  (h : ∀ (i : Nat) (o : List β), i < l.length → o.length = l.length → f ((i : Int), o) = some (.go (((i + 1 : Nat) : Int), o.set i (g (l.getD i d))))) (h0 : ∀ o, f ((l.length : Int), o) = some (.done o)) : loop f (0, List.replicate l.length e) = some (l.map g) := by
 have key : ∀ (r a : List α), l = a ++ r → loop f ((a.length : Int), a.map g ++ List.replicate r.length e) = some (l.map g) := by
  intro r
  induction r with
  | nil =>
   intro a ha
   rw [List.append_nil] at ha
   subst ha
   rw [Xg2 (h0 _)]; simp
  | cons x r ih =>
   intro a ha
   have hlen : a.length < l.length := by rw [ha]; simp
   rw [Xpf (h a.length _ hlen (by rw [ha]; simp))]
   have e1 : l.getD a.length d = x := by rw [ha]; exact Xw4 a x d r
   have e2 : (a.map g ++ List.replicate (x :: r).length e).set a.length (g x) = (a ++ [x]).map g ++ List.replicate r.length e := by
    have := Yd1 (a.map g) e (g x) (List.replicate r.length e)
    rw [List.length_map] at this
    rw [List.length_cons, List.replicate_succ, this]
    simp
   rw [e1, e2]
   have := ih (a ++ [x]) (by rw [ha]; simp)
   rw [List.length_append, List.length_singleton] at this
   exact this
 exact key l [] rfl
theorem Xky {f : Int → Option (Lp Int (Ou Unit Bool))} (n : Nat) (h : ∀ i : Nat, i < n → f i = some (.go ((i + 1 : Nat) : Int))) (h0 : f n = some (.done (.out ()))) : loop f 0 = some (.out ()) :=
 Xhz (P := fun i => loop f (i : Int) = some (.out ())) n (Xg2 h0) (fun i hi ih => by rw [Xpf (h i hi)]; exact ih) 0 (by omega)
def Xbx (n a b : Int) : Int := if b < a ∨ n < a then a else if n > b then b else n
theorem Xfl (n a b : Int) : Xcf n a b = some (Xbx n a b) := by
 unfold Xcf Xbx
 congr 1
 repeat' split
 all_goals omega
theorem Xht {n a b : Int} (h : a ≤ b) : a ≤ Xbx n a b ∧ Xbx n a b ≤ b := by
 unfold Xbx
 repeat' split
 all_goals omega
theorem Xc4 (n a b : Int) : Xck n a b = some (Xbx n a b) := by
 unfold Xck Xbx
 rw [Yhs, Xag]
 by_cases h : b < a ∨ n < a
 ·
  rw [if_pos h, Xhd (by simpa using h)]
 ·
  rw [if_neg h, Xdr (by simp; omega), Yci]; split <;> rfl
def Xcw (p : Pic) : Bool := decide (1 ≤ p.Wide ∧ p.Wide ≤ 256) && (decide (1 ≤ p.High ∧ p.High ≤ 256) && ((p.Dots.size : Int) == p.Wide * p.High))
theorem Xdl {w h : Int} (h1 : 1 ≤ w ∧ w ≤ 256) (h2 : 1 ≤ h ∧ h ≤ 256) : 1 ≤ w * h ∧ w * h ≤ 65536 := by
 have a : w * 1 ≤ w * h := Int.mul_le_mul_of_nonneg_left h2.1 (by omega)
 have b : w * h ≤ 256 * h := Int.mul_le_mul_of_nonneg_right h1.2 (by omega)
 omega
theorem Xf1 (p : Pic) : Xff p = some (Xcw p) := by
 unfold Xff Xcw
 simp only [Xai, Xag, Xfy]
 by_cases h1 : 1 ≤ p.Wide ∧ p.Wide ≤ 256
 ·
  by_cases h2 : 1 ≤ p.High ∧ p.High ≤ 256
  ·
   have := Xdl h1 h2
   rw [wkA]
  ·
   rw [decide_eq_false h2, Bool.false_and, Bool.false_and]
 ·
  rw [decide_eq_false h1, Bool.false_and, Bool.false_and]
theorem Xeb (p : Pic) : Xdm p = some (Xcw p) := by
 unfold Xdm Xcw
 simp only [Xar, Xag, Xfy]
 by_cases h1 : 1 ≤ p.Wide ∧ p.Wide ≤ 256
 ·
  by_cases h2 : 1 ≤ p.High ∧ p.High ≤ 256
  ·
   have := Xdl h1 h2
   rw [wkA]
  ·
   rw [decide_eq_false h2, Bool.false_and, Bool.false_and]
 ·
  rw [decide_eq_false h1, Bool.false_and, Bool.false_and]
theorem Xqn (l : List Int) (hl : l.length ≤ 9223372036854775806) : Xh1 l l = some true := by
 unfold Xh1
 rw [Xdr (by simp), Xky l.length (f := Xet l l) (by
  intro i hi
  unfold Xet
  rw [syA, rqA, rqA, Xdr (by simp), wkA]
  rfl) (by unfold Xet; rw [snA])]
 rfl
theorem Xs3 (p : Pic) : Xja p p = some true := by
 unfold Xja
 simp only [bne_self_eq_false, Xa7, beq_self_eq_true, Bool.not_true]
theorem Xuc (n : Nat) (x : Int) (h : n ≤ 1000000000) : Xg5 (n : Int) x = some (strOfNums (List.replicate n x)) := by
 unfold Xg5
 rw [rqA, Int.toNat_natCast]
 have key : ∀ (k a : Nat), k + a = n → loop (Xd5 (n : Int) x) ((a : Int), List.replicate a x ++ List.replicate k 0) = some (List.replicate n x) := by
  intro k
  induction k with
  | zero =>
   intro a ha
   refine Xnz ?_
   unfold Xd5
   simp only
   rw [snA]
   simp; omega
  | succ k ih =>
   intro a ha
   have e2 := Yd1 (List.replicate a x) 0 x (List.replicate k 0)
   rw [List.length_replicate] at e2
   refine lgo (y := (((a + 1 : Nat) : Int), List.replicate (a + 1) x ++ List.replicate k 0)) ?_ (ih (a + 1) (by omega))
   unfold Xd5
   simp only [List.replicate_succ (n := k), Int.toNat_natCast]
   rw [syA, Xb7 (by simp; omega), Xb7 (by simp), e2, wkA, List.replicate_succ' (n := a), List.append_assoc]
   rfl
 have := key n 0 rfl
 rw [List.replicate_zero, List.nil_append] at this
 exact Xl9 this
theorem Xve (l : List Int) (hl : l.length ≤ 1048576) : Xh4 l = some l := by
 unfold Xh4
 rw [rqA, Int.toNat_natCast]
 have := Xyv l (fun p : Int => p) 0 (0 : Int) (f := Xew l) (by
  intro i o hi ho
  unfold Xew
  simp only
  rw [syA, rqA, rqA, rqA, wkA]
  rfl) (by
  intro o; unfold Xew; simp only; rw [snA])
 rw [this, Xag, List.map_id']
theorem Xva (l : List Int) (m : Int) (hl : l.length ≤ maxLen) (h0 : 0 ≤ m) (h1 : m ≤ 1048576) : Xh2 l m = some (if m < l.length then -1 else m - l.length) := by
 have hm : maxLen = 9223372036854775807 := rfl
 unfold Xh2
 rw [wkA, Yci]
 by_cases h : m < l.length
 ·
  rw [if_pos h, if_pos (by omega)]
 ·
  rw [if_neg h, if_neg (by omega)]
theorem Xxm (p : Pic) (m : Int) (hl : p.Dots.size ≤ maxLen) (h0 : 0 ≤ m) (h1 : m ≤ 1048576) : Xjb p m = some (if m < p.Dots.size then -1 else m - p.Dots.size) := by
 have hm : maxLen = 9223372036854775807 := rfl
 unfold Xjb
 rw [wkA, Yci]
 by_cases h : m < p.Dots.size
 ·
  rw [if_pos h, if_pos (by omega)]
 ·
  rw [if_neg h, if_neg (by omega)]
def Yhd (x : Int) : Bool := decide (-5000 ≤ x ∧ x ≤ 5000)
def Yb8 (l : List Int) : Bool := decide (l.length = 64) && l.all Yhd
theorem Ya1 (p : Int → Bool) (l : List Int) (f : Int → Option (Lp Int (Ou Unit Bool))) (h : ∀ i : Nat, i < l.length → f (i : Int) = sel (!(p (l.getD i 0))) (some (.done (.ret false))) (some (.go ((i + 1 : Nat) : Int)))) (h0 : f (l.length : Int) = some (.done (.out ()))) :
  loop f 0 = some (if l.all p = true then .out () else .ret false) := by
 have key : ∀ (r a : List Int), l = a ++ r → loop f (a.length : Int) = some (if r.all p = true then .out () else .ret false) := by
  intro r
  induction r with
  | nil => intro a ha; rw [List.append_nil] at ha; rw [← ha, Xg2 h0]; rfl
  | cons x r ih =>
   intro a ha
   have hlen : a.length < l.length := by rw [ha]; simp
   have hx : l.getD a.length 0 = x := by rw [ha]; exact Xw4 a x _ r
   have hs := h a.length hlen
   rw [hx] at hs
   cases e : p x with
   | true =>
    rw [e] at hs
    have := ih (a ++ [x]) (by rw [ha]; simp)
    rw [List.length_append, List.length_singleton] at this
    rw [Xpf hs, this, List.all_cons, e, Bool.true_and]
   | false => rw [e] at hs; rw [Xg2 hs, List.all_cons, e, Bool.false_and]; rfl
 exact key l [] rfl
theorem Xvy (l : List Int) : Xb2 l 64 5000 = some (Yb8 l) := by
 unfold Xb2 Yb8
 by_cases h : l.length = 64
 ·
  rw [Xdr (by simp only [bne_eq_false_iff_eq]; omega), Ya1 Yhd l (Xb4 l 64 5000) (by
   intro i hi
   unfold Xb4
   rw [syA, rqA, wkA (e := 0 - 5000), Xai, Xag, wkA, Int.toNat_natCast]
   rfl) (by unfold Xb4; rw [snA]), Xag, decide_eq_true h, Bool.true_and]
  cases l.all Yhd <;> rfl
 ·
  rw [Xhd (by simp only [bne_iff_ne, ne_eq]; omega), decide_eq_false h, Bool.false_and]
theorem Xhk (l : List Int) (n lo hi : Int) (hl : l.length ≤ 9223372036854775806) : Xb6 l n lo hi = some (l.all (fun x => decide (lo ≤ x ∧ x ≤ hi)) && ((l.length : Int) == n)) := by
 unfold Xb6
 rw [Ya1 (fun x => decide (lo ≤ x ∧ x ≤ hi)) l (Xfs l lo hi) (by
   intro i hi
   unfold Xfs
   rw [syA, rqA, Xar, Xag, wkA, Int.toNat_natCast]
   rfl) (by unfold Xfs; rw [snA]), Xag]
 cases l.all (fun x => decide (lo ≤ x ∧ x ≤ hi)) <;> rfl
theorem Xi6 (l : List Int) (hl : l.length ≤ 9223372036854775806) : Xco l = some (Yb8 l) := by
 unfold Xco Yb8
 rw [Xhk l _ _ _ hl, Xag]
 show some (l.all Yhd && ((l.length : Int) == 64)) = _
 have : ((l.length : Int) == 64) = decide (l.length = 64) := by rw [Bool.eq_iff_iff]; simp only [beq_iff_eq, decide_eq_true_eq]; omega
 rw [this, Bool.and_comm]
theorem Yb9 {l : List Int} (h : Yb8 l = true) : l.length = 64 ∧ l.all Yhd = true := by
 unfold Yb8 at h; rw [Bool.and_eq_true, decide_eq_true_eq] at h; exact h
def Xi1 (c : Cond) : Bool := decide (0 ≤ c.Qp ∧ c.Qp ≤ 40) && !(c.Large && c.Exact)
theorem Xgs (c : Cond) : Xe8 c = some (Xi1 c) := by
 unfold Xe8 Xi1
 rw [Xai, Xag, Ydz, Xfy, Xag]
 cases c.Large <;> cases c.Exact <;> rfl
theorem Xgp (c : Cond) : Xe6 c = some (Xi1 c) := by
 unfold Xe6 Xi1
 rw [Xar, Xag, Ydz, Xfy, Xag]
 cases c.Large <;> cases c.Exact <;> rfl
def Xoj (s : Square) : Bool :=
 if s.Kind = 0 then decide (s.Mode = 0 ∧ s.Dx = 0 ∧ s.Dy = 0 ∧ s.Levels.length = 0)
 else if s.Kind = 1 then decide (s.Mode = 0) && (decide (-16 ≤ s.Dx ∧ s.Dx ≤ 16) && (decide (-16 ≤ s.Dy ∧ s.Dy ≤ 16) && Yb8 s.Levels))
 else if s.Kind = 2 then decide (0 ≤ s.Mode ∧ s.Mode ≤ 3) && (decide (s.Dx = 0) && (decide (s.Dy = 0) && Yb8 s.Levels))
 else false
theorem Xww (a b : Int) : (a == b) = decide (a = b) := by rw [Bool.eq_iff_iff]; simp
theorem Xka (s : Square) : Xei s = some (Xoj s) := by
 unfold Xei Xoj
 simp only [Xai, Xvy, Xag, Xfy, Xww]
 simp only [Yci]
 by_cases h0 : s.Kind = 0
 ·
  rw [if_pos h0, if_pos h0]; congr 1; rw [Bool.eq_iff_iff]; simp
 ·
  rw [if_neg h0, if_neg h0]
  by_cases h1 : s.Kind = 1
  ·
   rw [if_pos h1, if_pos h1]
  ·
   rw [if_neg h1, if_neg h1]
   by_cases h2 : s.Kind = 2
   ·
    rw [decide_eq_true h2, Bool.true_and, if_pos h2]
   ·
    rw [decide_eq_false h2, Bool.false_and, if_neg h2]
theorem Xj6 (s : Square) (hl : s.Levels.length ≤ 9223372036854775806) : Xfq s = some (Xoj s) := by
 unfold Xfq Xoj
 simp only [Xar, Xi6 _ hl, Xag, Xfy, Xww]
 simp only [Yci]
 by_cases h0 : s.Kind = 0
 ·
  rw [if_pos h0, if_pos h0]; congr 1; rw [Bool.eq_iff_iff]; simp
 ·
  rw [if_neg h0, if_neg h0]
  by_cases h1 : s.Kind = 1
  ·
   rw [if_pos h1, if_pos h1]
  ·
   rw [if_neg h1, if_neg h1]
   by_cases h2 : s.Kind = 2
   ·
    rw [decide_eq_true h2, Bool.true_and, if_pos h2]
   ·
    rw [decide_eq_false h2, Bool.false_and, if_neg h2]
def Xk9 (s : Square) (c : Cond) : Bool := !c.Key || s.Kind == 2
theorem Xz1 {s : Square} (h : Xoj s = true) : 0 ≤ s.Kind ∧ s.Kind ≤ 2 := by
 unfold Xoj at h
 repeat' split at h
 all_goals first | omega | simp at h
theorem Ybv {s : Square} (h : Xoj s = true) (h1 : s.Kind = 1) : (-16 ≤ s.Dx ∧ s.Dx ≤ 16) ∧ (-16 ≤ s.Dy ∧ s.Dy ≤ 16) ∧ Yb8 s.Levels = true := by
 unfold Xoj at h
 rw [if_neg (by omega), if_pos h1] at h
 simp only [Bool.and_eq_true, decide_eq_true_eq] at h
 exact ⟨h.2.1, h.2.2.1, h.2.2.2⟩
theorem Yfh {s : Square} (h : Xoj s = true) (h1 : s.Kind = 2) : (0 ≤ s.Mode ∧ s.Mode ≤ 3) ∧ Yb8 s.Levels = true := by
 unfold Xoj at h
 rw [if_neg (by omega), if_neg (by omega), if_pos h1] at h
 simp only [Bool.and_eq_true, decide_eq_true_eq] at h
 exact ⟨h.1, h.2.2.2⟩
theorem Yfk {f : (Int × Int) → Option (Lp (Int × Int) (Ou Int Int))} (n : Nat) (B : Int) (R : Nat → Prop) (h : ∀ (i : Nat) (m : Int), i < n → 0 ≤ m → m ≤ B → f (m, (i : Int)) = some (.done (.ret (-1))) ∨ ∃ m', f (m, (i : Int)) = some (.go (m', ((i + 1 : Nat) : Int))) ∧ 0 ≤ m' ∧ m' ≤ m ∧ R i)
  (h0 : ∀ m, f (m, (n : Int)) = some (.done (.out m))) (m : Int) (hm : 0 ≤ m) (hB : m ≤ B) : loop f (m, 0) = some (.ret (-1)) ∨ ∃ t, loop f (m, 0) = some (.out t) ∧ 0 ≤ t ∧ t ≤ m ∧ ∀ i, i < n → R i := by
 have := Xhz (P := fun i => ∀ m : Int, 0 ≤ m → m ≤ B → loop f (m, (i : Int)) = some (.ret (-1)) ∨ ∃ t, loop f (m, (i : Int)) = some (.out t) ∧ 0 ≤ t ∧ t ≤ m ∧ ∀ j, i ≤ j → j < n → R j) n ?_ ?_ 0 (by omega) m hm hB
 ·
  rcases this with e | ⟨t, e, a, b, c⟩
  ·
   exact .inl e
  ·
   exact .inr ⟨t, e, a, b, fun i hi => c i (by omega) hi⟩
 ·
  intro m h1 h2; exact .inr ⟨m, Xg2 (h0 m), h1, Int.le_refl _, fun j a b => by omega⟩
 ·
  intro i hi ih m h1 h2
  rcases h i m hi h1 h2 with e | ⟨m', e, h3, h4, h5⟩
  ·
   exact .inl (Xg2 e)
  ·
   rw [Xpf e]
   rcases ih m' h3 (by omega) with e | ⟨t, e, h6, h7, h8⟩
   ·
    exact .inl e
   ·
    exact .inr ⟨t, e, h6, by omega, fun j a b => by
     rcases Nat.eq_or_lt_of_le a with e | e
     ·
      subst e; exact h5
     ·
      exact h8 j (by omega) b⟩
theorem Xo8 (l : List Square) (m : Int) (hl : l.length ≤ maxLen) (hs : ∀ s ∈ l, s.Levels.length ≤ maxLen) (h0 : 0 ≤ m) (h1 : m ≤ 1048576) : ∃ t, Xev l m = some t ∧ t ≤ m ∧ -1 ≤ t ∧ (0 ≤ t → l.length ≤ 1048576 ∧ ∀ s ∈ l, s.Levels.length ≤ 1048576) := by
 have hm : maxLen = 9223372036854775807 := rfl
 unfold Xev
 rw [wkA]
 by_cases h : m - l.length < 0
 ·
  rw [Xhe h]; exact ⟨_, rfl, by omega, by omega, by omega⟩
 ·
  rw [Xaz h]
  rcases Yfk (f := Xc2 l) l.length 1048576 (fun i => (l.getD i Xas).Levels.length ≤ 1048576) (by
   intro i m hi h0 h1
   have hx := hs (l.getD i Xas) (by rw [Xb8 l i hi]; exact List.getElem_mem hi)
   unfold Xc2 Xhm
   simp only [Int.toNat_natCast]
   rw [syA, rqA, Xva _ m hx h0 h1, Xag, wkA]
   by_cases e : m < (l.getD i Xas).Levels.length
   ·
    left; rw [if_pos e, syA, Xag, syA]
   ·
    right; rw [if_neg e, snA, Xag, snA]; exact ⟨_, rfl, by omega, by omega, by omega⟩) (by
   intro m; unfold Xc2; simp only; rw [snA]) (m - l.length) (by omega) (by omega) with e | ⟨t, e, h2, h3, h4⟩
  ·
   rw [e]; exact ⟨_, rfl, by omega, by omega, by omega⟩
  ·
   rw [e]
   refine ⟨_, rfl, by omega, by omega, fun _ => ⟨by omega, fun s hs => ?_⟩⟩
   obtain ⟨i, hi, rfl⟩ := List.getElem_of_mem hs
   have := h4 i hi
   rw [Xb8 l i hi] at this; exact this
theorem Xpb (l : List Square) (hl : l.length ≤ 1048576) (hs : ∀ s ∈ l, s.Levels.length ≤ 1048576) : Xcq l = some l := by
 unfold Xcq
 rw [rqA, Int.toNat_natCast]
 have := Xyv l (fun p : Square => p) Xas Xas (f := Xc3 l) (by
  intro i o hi ho
  unfold Xc3 Xhn
  simp only [Int.toNat_natCast]
  rw [syA, rqA, Xve _ (by rw [Xb8 l i hi]; exact hs _ (List.getElem_mem hi)), Xag, Xag, rqA, rqA, Xag, wkA]
  rfl) (by
  intro o; unfold Xc3; simp only; rw [snA])
 rw [this, Xag, List.map_id']
theorem Xmo (l : List Square) (hl : l.length ≤ 1048600) (hs : ∀ s ∈ l, s.Levels.length ≤ 1048600) : Xeu l l = some true := by
 unfold Xeu
 rw [Xdr (by simp), Xky l.length (f := Xc1 l l) (by
  intro i hi
  have hx := hs (l.getD i Xas) (by rw [Xb8 l i hi]; exact List.getElem_mem hi)
  unfold Xc1 Xhl
  simp only [Int.toNat_natCast]
  rw [syA, rqA, rqA, Xqn _ (by omega)]
  simp only [bne_self_eq_false, Xa7, Xag, Bool.not_true]
  rw [wkA]
  rfl) (by unfold Xc1; rw [snA])]
 rfl
theorem Xwy (b : ByteArray) (i : Int) : 0 ≤ Yer b i ∧ Yer b i ≤ 255 := by
 unfold Yer
 split
 ·
  rename_i h
  have := (b[i.toNat]'h).toNat_lt
  omega
 ·
  omega
theorem Xba {p : Pic} (h : Xcw p = true) : (1 ≤ p.Wide ∧ p.Wide ≤ 256) ∧ (1 ≤ p.High ∧ p.High ≤ 256) ∧ (p.Dots.size : Int) = p.Wide * p.High := by
 unfold Xcw at h
 simp only [Bool.and_eq_true, decide_eq_true_eq, beq_iff_eq] at h
 exact ⟨h.1, h.2.1, h.2.2⟩
theorem Xxt {p : Pic} (h1 : 1 ≤ p.Wide ∧ p.Wide ≤ 256) (h2 : 1 ≤ p.High ∧ p.High ≤ 256) (h3 : (p.Dots.size : Int) = p.Wide * p.High) : Xcw p = true := by
 unfold Xcw
 simp only [Bool.and_eq_true, decide_eq_true_eq, beq_iff_eq]
 exact ⟨h1, h2, h3⟩
def Xw1 (p : Pic) (x y : Int) : Int := Yer p.Dots (Xbx y 0 (p.High - 1) * p.Wide + Xbx x 0 (p.Wide - 1))
theorem Xjm (p : Pic) (x y : Int) : 0 ≤ Xw1 p x y ∧ Xw1 p x y ≤ 255 := Xwy _ _
theorem Xyt {p : Pic} (ok : Xcw p = true) (x y : Int) : 0 ≤ Xbx y 0 (p.High - 1) * p.Wide + Xbx x 0 (p.Wide - 1) ∧ Xbx y 0 (p.High - 1) * p.Wide + Xbx x 0 (p.Wide - 1) < p.Dots.size ∧ 0 ≤ Xbx y 0 (p.High - 1) * p.Wide ∧ Xbx y 0 (p.High - 1) * p.Wide ≤ 65536 := by
 obtain ⟨h1, h2, h3⟩ := Xba ok
 have b1 := Xht (n := y) (a := 0) (b := p.High - 1) (by omega)
 have b2 := Xht (n := x) (a := 0) (b := p.Wide - 1) (by omega)
 have m1 := Int.mul_nonneg b1.1 (show 0 ≤ p.Wide by omega)
 have m2 := Int.mul_le_mul_of_nonneg_right b1.2 (show 0 ≤ p.Wide by omega)
 have m3 : (p.High - 1) * p.Wide = p.Wide * p.High - p.Wide := by rw [Int.sub_mul, Int.one_mul, Int.mul_comm]
 have m4 := (Xdl h1 h2).2
 omega
theorem Xst {p : Pic} (ok : Xcw p = true) (x y : Int) : Xcj p x y = some (Xw1 p x y) := by
 obtain ⟨h1, h2, h3⟩ := Xba ok
 unfold Xcj Xw1
 rw [Xfl, Xag, Xfl, Xag, wkA (e := p.High - 1), wkA (e := p.Wide - 1)]
 obtain ⟨p1, p2, p3, p4⟩ := Xyt ok x y
 have b2 := Xht (n := x) (a := 0) (b := p.Wide - 1) (by omega)
 have br := Xwy p.Dots (Xbx y 0 (p.High - 1) * p.Wide + Xbx x 0 (p.Wide - 1))
 rw [wkA (e := Xbx y 0 (p.High - 1) * p.Wide), wkA (e := Xbx y 0 (p.High - 1) * p.Wide + Xbx x 0 (p.Wide - 1)), Xb7 ⟨p1, p2⟩, wkA]
theorem Xf0 {p : Pic} (ok : Xcw p = true) (x y : Int) : Xc5 p x y = some (Xw1 p x y) := by
 obtain ⟨h1, h2, h3⟩ := Xba ok
 unfold Xc5 Xw1
 rw [Xf1, Xag, ok, Bool.not_true, Xa7, Xc4, Xag, Xc4, Xag, wkA (e := p.High - 1), wkA (e := p.Wide - 1)]
 obtain ⟨p1, p2, p3, p4⟩ := Xyt ok x y
 have b2 := Xht (n := x) (a := 0) (b := p.Wide - 1) (by omega)
 have br := Xwy p.Dots (Xbx y 0 (p.High - 1) * p.Wide + Xbx x 0 (p.Wide - 1))
 rw [wkA (e := Xbx y 0 (p.High - 1) * p.Wide), wkA (e := Xbx y 0 (p.High - 1) * p.Wide + Xbx x 0 (p.Wide - 1)), Xb7 ⟨p1, p2⟩, wkA]
def Yb2 (p : Pic) (x y : Int) (i : Nat) : Int := Xw1 p (x + ((i % 8 : Nat) : Int)) (y + ((i / 8 : Nat) : Int))
def Xyg (p : Pic) (x y : Int) (n : Nat) : List Int := (List.range n).map (Yb2 p x y)
theorem Xyo (p : Pic) (x y : Int) (n : Nat) : Xyg p x y (n + 1) = Xyg p x y n ++ [Yb2 p x y n] := by simp [Xyg, List.range_succ]
theorem Xl8 (p : Pic) (x y : Int) (n : Nat) : (Xyg p x y n).length = n := by simp [Xyg]
def Yet (x : Int) : Bool := decide (0 ≤ x ∧ x ≤ 255)
def Xhy (l : List Int) : Bool := decide (l.length = 64) && l.all Yet
theorem Xkm {l : List Int} (h : Xhy l = true) : l.length = 64 ∧ ∀ i : Nat, i < 64 → 0 ≤ l.getD i 0 ∧ l.getD i 0 ≤ 255 := by
 simp only [Xhy, Bool.and_eq_true, decide_eq_true_eq] at h
 refine ⟨h.1, fun i hi => ?_⟩
 have := List.all_eq_true.1 h.2 (l.getD i 0) (by rw [Xb8 l i (by omega)]; exact List.getElem_mem _)
 simpa [Yet] using this
theorem Xr5 (p : Pic) (x y : Int) : Xhy (Xyg p x y 64) = true := by
 simp only [Xhy, Xl8, decide_true, Bool.true_and, List.all_eq_true]
 intro z hz
 obtain ⟨i, _, rfl⟩ := List.mem_map.1 hz
 simp only [Yet, decide_eq_true_eq]
 exact Xjm _ _ _
theorem Xtt {p : Pic} (ok : Xcw p = true) (x y : Int) (hx : -1000 ≤ x ∧ x ≤ 1000) (hy : -1000 ≤ y ∧ y ≤ 1000) : Xg3 p x y = some (Xyg p x y 64) := by
 have hm : maxLen = 9223372036854775807 := rfl
 unfold Xg3
 rw [Xf1, Xag, ok, Xa5, Xai, Xag, syA, Xai, Xag, Xag, decide_eq_true (by omega), Bool.not_true, Xa7]
 have key : ∀ i : Nat, i ≤ 64 → loop (Xdz p x y) ((i : Int), Xyg p x y i) = some (Xyg p x y 64) := by
  refine Xhz _ ?_ ?_
  ·
   exact Xnz (by unfold Xdz; rw [Xaz (by simp)])
  ·
   intro i hi ih
   refine lgo (y := (((i + 1 : Nat) : Int), Xyg p x y (i + 1))) ?_ ih
   unfold Xdz
   simp only
   rw [syA, rqA, rqA, Xb3 (by omega), Xbu (by omega), wkA (e := (i : Int) / 8), wkA (e := x + (i : Int) % 8), wkA (e := y + (i : Int) / 8), Xf0 ok, Xag, Xb7 (by rw [Xl8]; simp only [List.length_singleton]; omega), wkA (e := (i : Int) + 1)]
   have e2 : Xw1 p (x + (i : Int) % 8) (y + (i : Int) / 8) = Yb2 p x y i := by unfold Yb2; congr 1
   rw [e2, ← Xyo]
   rfl
 have := key 0 (by omega)
 exact (Xl9 this).trans rfl
theorem Xno {p : Pic} (ok : Xcw p = true) (x y : Int) (hx : -1000 ≤ x ∧ x ≤ 1000) (hy : -1000 ≤ y ∧ y ≤ 1000) : Xdn p x y = some (Xyg p x y 64) := by
 have hm : maxLen = 9223372036854775807 := rfl
 unfold Xdn
 rw [rqA]
 have key : ∀ r : Nat, r ≤ 8 → loop (Xch p x y) ((r : Int), Xyg p x y (8 * r)) = some (Xyg p x y 64) := by
  refine Xhz _ ?_ ?_
  ·
   exact Xnz (by unfold Xch; rw [Xaz (by simp)])
  ·
   intro r hr ih
   refine lgo (y := (((r + 1 : Nat) : Int), Xyg p x y (8 * (r + 1)))) ?_ ih
   unfold Xch
   simp only
   have inner : ∀ c : Nat, c ≤ 8 → loop (Xci p x y ((r : Int), Xyg p x y (8 * r))) ((c : Int), Xyg p x y (8 * r + c)) = some (Xyg p x y (8 * (r + 1))) := by
    refine Xhz _ ?_ ?_
    ·
     exact Xnz (by unfold Xci; rw [Xaz (by simp)]; rfl)
    ·
     intro c hc ih2
     refine lgo (y := (((c + 1 : Nat) : Int), Xyg p x y (8 * r + (c + 1)))) ?_ ih2
     unfold Xci
     simp only
     rw [syA, wkA (e := x + (c : Int)), wkA (e := y + (r : Int)), Xst ok, Xag, Xb7 (by rw [Xl8]; simp only [List.length_singleton]; omega), wkA (e := (c : Int) + 1)]
     have e2 : Xw1 p (x + (c : Int)) (y + (r : Int)) = Yb2 p x y (8 * r + c) := by
      unfold Yb2
      rw [show (8 * r + c) % 8 = c by omega, show (8 * r + c) / 8 = r by omega]
     rw [e2, ← Xyo]
     rfl
   have i0 := inner 0 (by omega)
   rw [syA]
   refine (Xl9 i0).trans ?_
   rw [wkA (e := (r : Int) + 1)]
   rfl
 have := key 0 (by omega)
 exact (Xl9 this).trans rfl
theorem Xss (l : List Int) (hl : l.length ≤ 9223372036854775806) : Xb6 l 64 0 255 = some (Xhy l) := by
 rw [Xhk l _ _ _ hl]
 have : ((l.length : Int) == 64) = decide (l.length = 64) := by rw [Bool.eq_iff_iff]; simp only [beq_iff_eq, decide_eq_true_eq]; omega
 rw [this, Bool.and_comm]
 rfl
def Xgt (p : Pic) (x y : Int) : Bool := decide (0 ≤ x ∧ x ≤ p.Wide - 8 ∧ 0 ≤ y ∧ y ≤ p.High - 8)
theorem Xqi {p : Pic} (ok : Xcw p = true) (x y : Int) (hx : x.tmod 8 = 0) (hy : y.tmod 8 = 0) (h : Xgt p x y = true) : Xbp p x y = some true := by
 obtain ⟨k1, k2, k3⟩ := Xba ok
 unfold Xgt at h
 rw [decide_eq_true_eq] at h
 unfold Xbp
 rw [rqA, hx, rqA, hy, wkA (e := p.Wide - 8), wkA (e := p.High - 8), Xar, Xag, Xar, Xag, decide_eq_true (by omega), decide_eq_true (by omega)]
 rfl
def inB (B : Int) (l : List Int) : Prop := ∀ x ∈ l, -B ≤ x ∧ x ≤ B
theorem Xxf {B C : Int} {l : List Int} (h : inB B l) (hc : B ≤ C) : inB C l := fun x hx => by have := h x hx; omega
theorem Xo3 {B : Int} {a b : List Int} (ha : inB B a) (hb : inB B b) : inB B (a ++ b) := fun x hx => (List.mem_append.1 hx).elim (ha x) (hb x)
theorem Yah (B : Int) : inB B [] := fun x hx => by simp at hx
theorem Yc9 {B x : Int} (h : -B ≤ x ∧ x ≤ B) : inB B [x] := fun y hy => by rw [List.mem_singleton.1 hy]; exact h
theorem Yaj {B : Int} {l : List Int} (h : inB B l) (i : Nat) {y : Int} (hy : -B ≤ y ∧ y ≤ B) : inB B (l.set i y) := fun x hx => by
 rcases List.mem_or_eq_of_mem_set hx with hx | hx
 ·
  exact h x hx
 ·
  rw [hx]; exact hy
theorem Yai (n : Nat) {B : Int} (h : 0 ≤ B) : inB B (List.replicate n 0) := fun x hx => by rw [List.eq_of_mem_replicate hx]; omega
theorem Xkt {B : Int} {l : List Int} (h : inB B l) {i : Nat} (hi : i < l.length) : -B ≤ l.getD i 0 ∧ l.getD i 0 ≤ B := h _ (by rw [Xb8 l i hi]; exact List.getElem_mem _)
theorem Ybc {B : Int} {l : List Int} (h : inB B l) (n : Nat) : inB B (l.take n) := fun x hx => h x (List.mem_of_mem_take hx)
theorem Ybb {B : Int} {l : List Int} (h : inB B l) (n : Nat) : inB B (l.drop n) := fun x hx => h x (List.mem_of_mem_drop hx)
theorem Xc9 {S : Type} {f : Int × S → Option (Lp (Int × S) S)} (n : Nat) (I : Nat → S → Prop) (hs : ∀ (i : Nat) (l : S), i < n → I i l → ∃ l', f ((i : Int), l) = some (.go (((i + 1 : Nat) : Int), l')) ∧ I (i + 1) l') (he : ∀ l, f ((n : Int), l) = some (.done l)) (l0 : S) (h0 : I 0 l0) : ∃ o, loop f (0, l0) = some o ∧ I n o := by
 have key : ∀ i : Nat, i ≤ n → ∀ l, I i l → ∃ o, loop f ((i : Int), l) = some o ∧ I n o := by
  refine Xhz _ ?_ ?_
  ·
   intro l h; exact ⟨l, Xnz (he l), h⟩
  ·
   intro i hi ih l h
   obtain ⟨l', e, h'⟩ := hs i l hi h
   obtain ⟨o, e2, h2⟩ := ih l' h'
   exact ⟨o, lgo e e2, h2⟩
 exact key 0 (by omega) l0 h0
theorem Xie {S : Type} {f : S × Int → Option (Lp (S × Int) S)} (n : Nat) (I : Nat → S → Prop) (hs : ∀ (i : Nat) (l : S), i < n → I i l → ∃ l', f (l, (i : Int)) = some (.go (l', ((i + 1 : Nat) : Int))) ∧ I (i + 1) l') (he : ∀ l, f (l, (n : Int)) = some (.done l)) (l0 : S) (h0 : I 0 l0) : ∃ o, loop f (l0, 0) = some o ∧ I n o := by
 have key : ∀ i : Nat, i ≤ n → ∀ l, I i l → ∃ o, loop f (l, (i : Int)) = some o ∧ I n o := by
  refine Xhz _ ?_ ?_
  ·
   intro l h; exact ⟨l, Xnz (he l), h⟩
  ·
   intro i hi ih l h
   obtain ⟨l', e, h'⟩ := hs i l hi h
   obtain ⟨o, e2, h2⟩ := ih l' h'
   exact ⟨o, lgo e e2, h2⟩
 exact key 0 (by omega) l0 h0
theorem Xde (l : List Int) (i j : Nat) (y : Int) (hi : i < l.length) : (l.set i y).getD j 0 = if i = j then y else l.getD j 0 := by
 rw [List.getD_eq_getElem?_getD, List.getElem?_set, List.getD_eq_getElem?_getD]
 by_cases h : i = j
 ·
  subst h; rw [if_pos rfl, if_pos rfl, if_pos hi]; rfl
 ·
  rw [if_neg h, if_neg h]
theorem Xlg {f : Int × List Int → Option (Lp (Int × List Int) (List Int))} (n : Nat) (P Q : Int → Prop) (hs : ∀ (i : Nat) (l : List Int), i < n → l.length = n → P (l.getD i 0) → ∃ y, f ((i : Int), l) = some (.go (((i + 1 : Nat) : Int), l.set i y)) ∧ Q y) (he : ∀ l, f ((n : Int), l) = some (.done l)) (l0 : List Int) (h0 : l0.length = n) (hb : ∀ x ∈ l0, P x) : ∃ o, loop f (0, l0) = some o ∧ o.length = n ∧ ∀ x ∈ o, Q x := by
 obtain ⟨o, e, h1, h2, _⟩ := Xc9 (f := f) n (fun i l => l.length = n ∧ (∀ j, j < i → Q (l.getD j 0)) ∧ ∀ j, i ≤ j → j < n → P (l.getD j 0)) (by
  intro i l hi ⟨g1, g2, g3⟩
  obtain ⟨y, e, hy⟩ := hs i l hi g1 (g3 i (Nat.le_refl _) hi)
  refine ⟨_, e, by rw [List.length_set]; exact g1, fun j hj => ?_, fun j hj hj2 => ?_⟩
  ·
   rw [Xde l i j y (by omega)]
   by_cases h : i = j
   ·
    rw [if_pos h]; exact hy
   ·
    rw [if_neg h]; exact g2 j (by omega)
  ·
   rw [Xde l i j y (by omega), if_neg (by omega)]; exact g3 j (by omega) hj2) he l0 ⟨h0, fun j hj => by omega, fun j _ hj => hb _ (by rw [Xb8 l0 j (by omega)]; exact List.getElem_mem _)⟩
 refine ⟨o, e, h1, fun x hx => ?_⟩
 obtain ⟨j, hj, rfl⟩ := List.getElem_of_mem hx
 have := h2 j (by omega)
 rwa [Xb8 o j hj] at this
theorem Xfe (l : List Int) (n B : Int) (hn : (l.length : Int) = n) (hn2 : n ≤ 1000000) (hB : 0 ≤ B ∧ B ≤ 100000000) (h : inB B l) : Xb2 l n B = some true := by
 unfold Xb2
 rw [Xdr (by simp only [bne_eq_false_iff_eq]; exact hn), Xky l.length (f := Xb4 l n B) (by
  intro i hi
  have := Xkt h hi
  unfold Xb4
  rw [syA, rqA, wkA (e := 0 - B), Xai, Xag, Int.toNat_natCast, decide_eq_true (by omega), Bool.not_true, Xa7, wkA]
  rfl) (by unfold Xb4; rw [snA]), Xag]
def Xn4 (n i : Int) (v17 : Int × Int) : Option (Lp (Int × Int) (Ou Unit Int)) :=
 sel (decide (v17.2 ≤ (Xaa .i64 ((Xaa .i64 (2 * n)) - 2)))) (
 bnd (it (Xh9 n i v17) 20 (v17.1, 0)) fun o47 => match o47 with
 | .out v43 => (
 some (.go (v43, Xaa .i64 (v17.2 + 1))))
 | .ret r => some (.done (.ret r))) (
 some (.done (.out ())))
theorem Xzw {n i : Int} {v : Int × Int} {x : Lp (Int × Int) (Ou Unit Int)} (h : Xn4 n i v = some x) : Xf2 n i v = some x := by
 unfold Xn4 at h
 unfold Xf2
 rcases Xj0 h with ⟨hb, h⟩ | ⟨hb, h⟩
 ·
  rw [hb, Xa5]
  obtain ⟨a, h1, h2⟩ := Xa9 h
  rw [Xel.2 ⟨20, h1⟩, Xag]
  exact h2
 ·
  rw [hb, Xa7]; exact h
theorem Ye1 {V O : Type} {f g : V → Option (Lp V O)} (hf : ∀ v y, f v = some y → g v = some y) {o : O} : ∀ (k : Nat) (v : V), it f k v = some o → it g k v = some o
 | 0, v, h => by cases h
 | k + 1, v, h => by
  rw [it] at h ⊢
  cases e : f v with
  | none => rw [e] at h; cases h
  | some s =>
   rw [e] at h
   rw [hf v s e]
   cases s with
   | go y => exact Ye1 hf k y h
   | done o' => exact h
def Xdx (n i : Int) : Int := match it (Xn4 n i) 20 (0, 0) with | some (.ret q) => q | _ => -1
theorem Yfd : ∀ i : Fin 16, (0 ≤ Xdx 4 (i.val : Int) ∧ Xdx 4 (i.val : Int) < 16) := by decide +kernel
theorem Yfe : ∀ i : Fin 64, (0 ≤ Xdx 8 (i.val : Int) ∧ Xdx 8 (i.val : Int) < 64) := by decide +kernel
theorem Xin (n : Int) (hn : n = 4 ∨ n = 8) (i : Nat) (hi : (i : Int) < n * n) : 0 ≤ Xdx n i ∧ Xdx n i < n * n := by
 rcases hn with rfl | rfl
 ·
  exact Yfd ⟨i, by omega⟩
 ·
  exact Yfe ⟨i, by omega⟩
theorem Xi0 (n : Int) (hn : n = 4 ∨ n = 8) (i : Nat) (hi : (i : Int) < n * n) : Xh8 n i = some (Xdx n i) := by
 have hp := Xin n hn i hi
 unfold Xh8
 have hw : Xaa .i64 (n * n) = n * n := by rcases hn with rfl | rfl <;> exact wkA
 have hc : (sel (n != 4) (sel (n != 8) (some true) (sel (decide ((i : Int) < 0)) (some true) (some (decide ((i : Int) ≥ (Xaa .i64 (n * n))))))) (sel (decide ((i : Int) < 0)) (some true) (some (decide ((i : Int) ≥ (Xaa .i64 (n * n))))))) = some false := by
  rw [hw, Xaz (show ¬ (i : Int) < 0 by omega), decide_eq_false (show ¬ (i : Int) ≥ n * n by omega)]
  rcases hn with rfl | rfl <;> rfl
 rw [hc, Xag, Xa7]
 unfold Xdx at hp ⊢
 cases e : it (Xn4 n i) 20 (0, 0) with
 | none => rw [e] at hp; simp only at hp; omega
 | some s =>
  rw [e] at hp
  have h := Ye1 (fun v y => Xzw (n := n) (i := i)) 20 _ e
  rw [Xel.2 ⟨20, h⟩, Xag]
  cases s with
  | out u => simp only at hp; omega
  | ret q => rfl
theorem Xc7 (n : Int) (hn : n = 4 ∨ n = 8) (l : List Int) (B : Int) (hB : 0 ≤ B) (hl : (l.length : Int) = n * n) (hb : inB B l) : ∃ o, Xbs n l = some (o, true) ∧ o.length = l.length ∧ inB B o := by
 have hm : maxLen = 9223372036854775807 := rfl
 have hw : Xaa .i64 (n * n) = n * n := by rcases hn with rfl | rfl <;> exact wkA
 have hl2 : l.length ≤ 64 := by rcases hn with rfl | rfl <;> omega
 unfold Xbs
 have hc : (sel (n != 4) (sel (n != 8) (some true) (some ((l.length : Int) != (Xaa .i64 (n * n))))) (some ((l.length : Int) != (Xaa .i64 (n * n))))) = some false := by
  rw [hw, hl, bne_self_eq_false]
  rcases hn with rfl | rfl <;> rfl
 rw [hc, Xag, Xa7, rqA, Int.toNat_natCast]
 obtain ⟨o, e, h1, h2⟩ := Xc9 (f := Xbd n l) l.length (fun i s => s.length = l.length ∧ inB B s) (by
  intro i s hi ⟨g1, g2⟩
  have hp := Xin n hn i (by omega)
  have ha := Xkt hb hi
  unfold Xbd
  simp only
  rw [hw, syA, Xi0 n hn i (by omega), Xag, rqA, rqA, rqA, wkA, Int.toNat_natCast]
  exact ⟨_, rfl, by rw [List.length_set]; exact g1, Yaj g2 _ ha⟩) (by intro s; unfold Xbd; simp only; rw [hw, snA]) (List.replicate l.length 0) ⟨List.length_replicate, Yai _ hB⟩
 exact ⟨o, (Xl9 e).trans rfl, h1, h2⟩
def Xey (u v : Int) : Int := match it Xez 10 (1, (IntKind.wrap .i64 (BitVec.ofInt (IntKind.bits .i64) u &&& BitVec.ofInt (IntKind.bits .i64) v).toNat)) with | some q => q | none => 7
theorem Yd2 : ∀ u v : Fin 8, (-1 ≤ Xey (u.val : Int) (v.val : Int) ∧ Xey (u.val : Int) (v.val : Int) ≤ 1) := by decide +kernel
theorem Xl3 (u v : Nat) (hu : u < 8) (hv : v < 8) : ∃ s, Xd3 u v = some s ∧ -1 ≤ s ∧ s ≤ 1 := by
 have h := Yd2 ⟨u, hu⟩ ⟨v, hv⟩
 simp only at h
 unfold Xd3
 rw [Xai, Xag, decide_eq_true (by omega), Xa5, Xai, Xag, decide_eq_true (by omega), Bool.not_true, Xag, Xa7]
 unfold Xey at h
 cases e : it Xez 10 (1, (IntKind.wrap .i64 (BitVec.ofInt (IntKind.bits .i64) (u : Int) &&& BitVec.ofInt (IntKind.bits .i64) (v : Int)).toNat)) with
 | none => rw [e] at h; simp only at h; omega
 | some q =>
  rw [e] at h
  rw [Xel.2 ⟨10, e⟩, Xag]
  exact ⟨q, rfl, h⟩
def Xj2 (qp : Int) : Int := if qp.tmod 6 = 0 then 10 else if qp.tmod 6 = 1 then 11 else if qp.tmod 6 = 2 then 13 else if qp.tmod 6 = 3 then 14 else if qp.tmod 6 = 4 then 16 else 18
def Xic (qp : Int) : Int := match it (Xe0 qp) 10 (Xj2 qp, 0) with | some q => q | none => 0
theorem Yd5 : ∀ q : Fin 41, (10 ≤ Xic (q.val : Int) ∧ Xic (q.val : Int) ≤ 1152) := by decide +kernel
theorem Xvv (qp : Int) (h0 : 0 ≤ qp ∧ qp ≤ 40) : ∃ s, Xd4 qp = some s ∧ 10 ≤ s ∧ s ≤ 1152 := by
 have h := Yd5 ⟨qp.toNat, by omega⟩
 simp only at h
 rw [show ((qp.toNat : Nat) : Int) = qp by omega] at h
 unfold Xd4
 rw [Xai, Xag, decide_eq_true (by omega), Bool.not_true, Xa7, rqA]
 have hb : (sel ((qp.tmod 6) == 0) (some (10 : Int)) (sel ((qp.tmod 6) == 1) (some 11) (sel ((qp.tmod 6) == 2) (some 13) (sel ((qp.tmod 6) == 3) (some 14) (sel ((qp.tmod 6) == 4) (some 16) (some 18)))))) = some (Xj2 qp) := by
  unfold Xj2
  simp only [Yav, beq_iff_eq]
  repeat' split
  all_goals rfl
 rw [hb, Xag]
 unfold Xic at h
 cases e : it (Xe0 qp) 10 (Xj2 qp, 0) with
 | none => rw [e] at h; simp only at h; omega
 | some q =>
  rw [e] at h
  rw [Xel.2 ⟨10, e⟩, Xag]
  exact ⟨q, rfl, h⟩
theorem Xl0 (p : Int) (h : 0 ≤ p ∧ p ≤ 15) : ∃ k, Xgj p = some k ∧ 0 ≤ k ∧ k ≤ 2 := by
 unfold Xgj
 rw [Xai, Xag, decide_eq_true h, Bool.not_true, Xa7, rqA, rqA, rqA, rqA, Xfy, Xag]
 cases ((Xaa .i64 (p.tdiv 4)).tmod 2 == 0 && (p.tmod 4).tmod 2 == 0) with
 | true => exact ⟨0, rfl, by omega, by omega⟩
 | false =>
  rw [Xa7, Xfy, Xag]
  cases ((Xaa .i64 (p.tdiv 4)).tmod 2 == 1 && (p.tmod 4).tmod 2 == 1) with
  | true => exact ⟨1, rfl, by omega, by omega⟩
  | false => exact ⟨2, rfl, by omega, by omega⟩
theorem Xa4 (k a b c : Int) : ∃ x, Xa6 k a b c = some x ∧ (x = a ∨ x = b ∨ x = c) := by
 unfold Xa6
 cases (k == 0) with
 | true => exact ⟨a, rfl, Or.inl rfl⟩
 | false =>
  cases (k == 1) with
  | true => exact ⟨b, rfl, Or.inr (Or.inl rfl)⟩
  | false => exact ⟨c, rfl, Or.inr (Or.inr rfl)⟩
theorem Ych (qp : Int) (h0 : 0 ≤ qp ∧ qp ≤ 40) (x : Int) (hx : 0 ≤ x ∧ x ≤ 29) : ∃ o, loop (Xcc qp) (x, 0) = some o ∧ 0 ≤ o ∧ o ≤ 1856 := by
 obtain ⟨o, e, h1, h2⟩ := Xie (f := Xcc qp) (qp / 6).toNat (fun i s => 0 ≤ s ∧ s ≤ 29 * 2 ^ i) (by
  intro i s hi ⟨g1, g2⟩
  have h6 : (2 : Int) ^ i ≤ 64 := by
   have : i ≤ 6 := by omega
   obtain rfl | rfl | rfl | rfl | rfl | rfl | rfl : i = 0 ∨ i = 1 ∨ i = 2 ∨ i = 3 ∨ i = 4 ∨ i = 5 ∨ i = 6 := by omega
   all_goals decide
  have h7 : (2 : Int) ^ (i + 1) = 2 * 2 ^ i := by rw [Int.pow_succ, Int.mul_comm]
  unfold Xcc
  simp only
  rw [rqA, Xbu (by omega), wkA (e := qp / 6), syA, wkA (e := 2 * s), wkA (e := (i : Int) + 1)]
  exact ⟨_, rfl, by omega, by rw [h7]; omega⟩) (by intro s; unfold Xcc; simp only; rw [rqA, Xbu (by omega), wkA (e := qp / 6), snA]) x ⟨hx.1, by simp; omega⟩
 have h6 : (2 : Int) ^ (qp / 6).toNat ≤ 64 := by
  generalize hi : (qp / 6).toNat = i
  obtain rfl | rfl | rfl | rfl | rfl | rfl | rfl : i = 0 ∨ i = 1 ∨ i = 2 ∨ i = 3 ∨ i = 4 ∨ i = 5 ∨ i = 6 := by omega
  all_goals decide
 exact ⟨o, e, h1, by omega⟩
theorem Xt6 (qp p : Int) (h0 : 0 ≤ qp ∧ qp ≤ 40) (hp : 0 ≤ p ∧ p ≤ 15) : ∃ s, Xd2 qp p = some s ∧ 0 ≤ s ∧ s ≤ 1856 := by
 unfold Xd2
 obtain ⟨k, e, k0, k1⟩ := Xl0 p hp
 rw [e, Xag, Xai, Xag, decide_eq_true h0, Xa5, decide_eq_false (by omega), Xag, Xa7, rqA]
 obtain ⟨a1, e1, b1⟩ := Xa4 k 10 16 13
 obtain ⟨a2, e2, b2⟩ := Xa4 k 11 18 14
 obtain ⟨a3, e3, b3⟩ := Xa4 k 13 20 16
 obtain ⟨a4, e4, b4⟩ := Xa4 k 14 23 18
 obtain ⟨a5, e5, b5⟩ := Xa4 k 16 25 20
 obtain ⟨a6, e6, b6⟩ := Xa4 k 18 29 23
 rw [e1, e2, e3, e4, e5, e6]
 simp only [Xag, Yd0]
 obtain ⟨o, eo, o1, o2⟩ := Ych qp h0 (sel (qp.tmod 6 == 0) a1 (sel (qp.tmod 6 == 1) a2 (sel (qp.tmod 6 == 2) a3 (sel (qp.tmod 6 == 3) a4 (sel (qp.tmod 6 == 4) a5 (sel (qp.tmod 6 == 5) a6 0)))))) (by
  simp only [Yav]
  repeat' split
  all_goals omega)
 exact ⟨o, (Xl9 eo).trans rfl, o1, o2⟩
theorem Ybn {a s B : Int} (ha : -B ≤ a ∧ a ≤ B) (hs : -1 ≤ s ∧ s ≤ 1) : (-B ≤ a * s ∧ a * s ≤ B) ∧ (-B ≤ s * a ∧ s * a ≤ B) := by
 obtain rfl | rfl | rfl : s = -1 ∨ s = 0 ∨ s = 1 := by omega
 all_goals omega
theorem Xv1 (p : List Int) (B : Int) (hB : 0 ≤ B ∧ B ≤ 1000000000000) (hl : p.length = 64) (hb : inB B p) (i v : Nat) (hi : i < 8) (hv : v < 8) : ∃ o, Xe9 p i v = some o ∧ -(8 * B) ≤ o ∧ o ≤ 8 * B := by
 unfold Xe9
 obtain ⟨o, e, h1, h2⟩ := Xie (f := Xb5 p i v) 8 (fun k s => -(B * k) ≤ s ∧ s ≤ B * k) (by
  intro k s hk ⟨g1, g2⟩
  obtain ⟨q, eq, q0, q1⟩ := Xl3 v k hv hk
  have ha := Xkt hb (i := 8 * i + k) (by omega)
  have hm := (Ybn ha ⟨q0, q1⟩).1
  have hk8 : B * k ≤ B * 8 := Int.mul_le_mul_of_nonneg_left (by omega) hB.1
  have hk0 : B * ((k + 1 : Nat) : Int) = B * k + B := by rw [Int.natCast_add, Int.mul_add]; simp
  unfold Xb5
  simp only
  rw [syA, wkA (e := 8 * (i : Int)), wkA (e := 8 * (i : Int) + (k : Int)), rqA, eq, Xag, show (8 * (i : Int) + (k : Int)).toNat = 8 * i + k by omega, wkA (e := p.getD (8 * i + k) 0 * q), wkA (e := s + p.getD (8 * i + k) 0 * q), wkA (e := (k : Int) + 1)]
  exact ⟨_, rfl, by rw [hk0]; omega, by rw [hk0]; omega⟩) (by intro s; unfold Xb5; rw [Xaz (by simp)]) 0 (by simp)
 exact ⟨o, (Xl9 e).trans rfl, by omega, by omega⟩
theorem Xuh (p : List Int) (B : Int) (hB : 0 ≤ B ∧ B ≤ 10000000000) (hl : p.length = 64) (hb : inB B p) : ∃ o, Xd6 p = some o ∧ o.length = 64 ∧ inB (64 * B) o := by
 have hm : maxLen = 9223372036854775807 := rfl
 unfold Xd6
 obtain ⟨h, eh, hh1, hh2⟩ := Xc9 (f := Xbn p) 8 (fun i s => s.length = 8 * i ∧ inB (8 * B) s) (by
  intro i s hi ⟨g1, g2⟩
  obtain ⟨t, et, t1, t2⟩ := Xc9 (f := Xbo p ((i : Int), s)) 8 (fun v s => s.length = 8 * i + v ∧ inB (8 * B) s) (by
   intro v s hv ⟨g1, g2⟩
   obtain ⟨r, er, r1, r2⟩ := Xv1 p B ⟨hB.1, by omega⟩ hl hb i v hi hv
   unfold Xbo
   simp only
   rw [syA, er, Xag, Xb7 (by simp only [List.length_singleton]; omega), wkA (e := (v : Int) + 1)]
   exact ⟨_, rfl, by simp; omega, Xo3 g2 (Yc9 ⟨by omega, r2⟩)⟩) (by intro s; unfold Xbo; rw [Xaz (by simp)]) s ⟨by omega, g2⟩
  unfold Xbn
  simp only
  rw [syA, et, Xag, wkA (e := (i : Int) + 1)]
  exact ⟨_, rfl, by omega, t2⟩) (by intro s; unfold Xbn; rw [Xaz (by simp)]) [] ⟨rfl, Yah _⟩
 rw [eh, Xag]
 obtain ⟨o, eo, o1, o2⟩ := Xc9 (f := Xbe h) 8 (fun i s => s.length = 8 * i ∧ inB (64 * B) s) (by
  intro i s hi ⟨g1, g2⟩
  obtain ⟨t, et, t1, t2⟩ := Xc9 (f := Xbf h ((i : Int), s)) 8 (fun v s => s.length = 8 * i + v ∧ inB (64 * B) s) (by
   intro v r hv ⟨g1, g2⟩
   obtain ⟨a, ea, a1, a2⟩ := Xie (f := Xbg h ((i : Int), s) ((v : Int), r)) 8 (fun k s => -(8 * B * k) ≤ s ∧ s ≤ 8 * B * k) (by
    intro k c hk ⟨g1, g2⟩
    obtain ⟨q, eq, q0, q1⟩ := Xl3 i k hi hk
    have ha := Xkt hh2 (i := 8 * k + v) (by omega)
    have hm := (Ybn ha ⟨q0, q1⟩).2
    have hk8 : 8 * B * k ≤ 8 * B * 8 := Int.mul_le_mul_of_nonneg_left (by omega) (by omega)
    have hk0 : 8 * B * ((k + 1 : Nat) : Int) = 8 * B * k + 8 * B := by rw [Int.natCast_add, Int.mul_add]; simp
    unfold Xbg
    simp only
    rw [syA, eq, Xag, wkA (e := 8 * (k : Int)), wkA (e := 8 * (k : Int) + (v : Int)), rqA, rqA, show (8 * (k : Int) + (v : Int)).toNat = 8 * k + v by omega, wkA (e := q * h.getD (8 * k + v) 0), wkA (e := c + q * h.getD (8 * k + v) 0), wkA (e := (k : Int) + 1)]
    exact ⟨_, rfl, by rw [hk0]; omega, by rw [hk0]; omega⟩) (by intro s; unfold Xbg; rw [Xaz (by simp)]) 0 (by simp)
   unfold Xbf
   simp only
   rw [syA, ea, Xag, Xb7 (by simp only [List.length_singleton]; omega), wkA (e := (v : Int) + 1)]
   exact ⟨_, rfl, by simp; omega, Xo3 g2 (Yc9 ⟨by omega, by omega⟩)⟩) (by intro s; unfold Xbf; rw [Xaz (by simp)]) s ⟨by omega, g2⟩
  unfold Xbe
  simp only
  rw [syA, et, Xag, wkA (e := (i : Int) + 1)]
  exact ⟨_, rfl, by omega, t2⟩) (by intro s; unfold Xbe; rw [Xaz (by simp)]) [] ⟨rfl, Yah _⟩
 exact ⟨o, (Xl9 eo).trans rfl, by omega, o2⟩
theorem Xf5 (a b : Int) (ha : -1000000000000 ≤ a ∧ a ≤ 1000000000000) (hb : b = 2 ∨ b = 64) : ∃ d, Xbm a b = some d ∧ b * d ≤ a ∧ a < b * d + b := by
 unfold Xbm
 have h1 : b * (a.tdiv b) + a.tmod b = a := Int.mul_tdiv_add_tmod a b
 have h2 : -b < a.tmod b ∧ a.tmod b < b := by
  have hb0 : 0 < b := by omega
  refine ⟨?_, Int.tmod_lt_of_pos a hb0⟩
  have := Int.lt_tmod_of_pos a hb0
  omega
 rw [rqA, rqA]
 generalize a.tmod b = m at h1 h2
 generalize a.tdiv b = t at h1 h2
 have ht : -1000000000001 ≤ t ∧ t ≤ 1000000000001 := by rcases hb with rfl | rfl <;> omega
 by_cases h : m < 0
 ·
  rw [Xhe h, Xag, wkA (e := t), wkA (e := t - 1)]
  refine ⟨_, rfl, ?_⟩
  rcases hb with rfl | rfl <;> omega
 ·
  rw [Xaz h, Xag, wkA (e := t)]
  refine ⟨_, rfl, ?_⟩
  rcases hb with rfl | rfl <;> omega
theorem Xpj (p : List Int) (hl : p.length = 64) (hb : inB 5760000 p) : ∃ o, Xcr p = some o ∧ o.length = 64 ∧ inB 10000000 o := by
 unfold Xcr
 obtain ⟨o, e, h1, h2⟩ := Xuh p 5760000 (by omega) hl hb
 rw [Xfe p 64 10000000 (by omega) (by omega) (by omega) (Xxf hb (by omega)), Xag, Bool.not_true, Xa7, e, Xag]
 obtain ⟨r, er, r1, r2⟩ := Xlg (f := Xc6) 64 (fun x => -368640000 ≤ x ∧ x ≤ 368640000) (fun x => -10000000 ≤ x ∧ x ≤ 10000000) (by
  intro i l hi hll hx
  obtain ⟨d, ed, d1, d2⟩ := Xf5 (l.getD i 0 + 32) 64 (by omega) (Or.inr rfl)
  unfold Xc6
  simp only [Int.toNat_natCast]
  rw [syA, rqA, rqA, wkA (e := l.getD i 0 + 32), ed, Xag, rqA, rqA, wkA (e := (i : Int) + 1)]
  exact ⟨d, rfl, by omega, by omega⟩) (by intro s; unfold Xc6; rw [Xaz (by simp)]) o h1 (fun x hx => by have := h2 x hx; omega)
 exact ⟨r, (Xl9 er).trans rfl, r1, r2⟩
theorem Xk4 (p : List Int) (B : Int) (hB : 0 ≤ B) (hl : p.length = 16) (hb : inB B p) : ∃ o, Xdd p = some o ∧ o.length = 16 ∧ inB B o := by
 unfold Xdd
 rw [rqA]
 obtain ⟨o, e, h1, h2⟩ := Xc9 (f := Xb1 p) 16 (fun i s => s.length = 16 ∧ inB B s) (by
  intro i s hi ⟨g1, g2⟩
  have ha := Xkt hb (i := i) (by omega)
  unfold Xb1
  simp only
  rw [syA, rqA, rqA, rqA, Xb3 (by omega), Xbu (by omega), wkA (e := (i : Int) / 4), wkA (e := (i : Int) % 4 * 4), wkA (e := (i : Int) % 4 * 4 + (i : Int) / 4), rqA, rqA, wkA (e := (i : Int) + 1), Int.toNat_natCast]
  exact ⟨_, rfl, by rw [List.length_set]; exact g1, Yaj g2 _ ha⟩) (by intro s; unfold Xb1; rw [Xaz (by simp)]) (List.replicate (16 : Int).toNat 0) ⟨by simp, Yai _ hB⟩
 exact ⟨o, (Xl9 e).trans rfl, h1, h2⟩
theorem Ye0 {B a b c d : Int} (h1 : -B ≤ a ∧ a ≤ B) (h2 : -B ≤ b ∧ b ≤ B) (h3 : -B ≤ c ∧ c ≤ B) (h4 : -B ≤ d ∧ d ≤ B) : inB B [a, b, c, d] := fun x hx => by
 simp only [List.mem_cons, List.not_mem_nil, or_false] at hx
 rcases hx with rfl | rfl | rfl | rfl
 ·
  exact h1
 ·
  exact h2
 ·
  exact h3
 ·
  exact h4
theorem Xkd (p : List Int) (B : Int) (hB : 0 ≤ B ∧ B ≤ 1000000000) (hl : p.length = 16) (hb : inB B p) : ∃ o, Xcl p = some o ∧ o.length = 16 ∧ inB (4 * B + 2) o := by
 have hm : maxLen = 9223372036854775807 := rfl
 unfold Xcl
 obtain ⟨o, e, h1, h2⟩ := Xc9 (f := Xbl p) 4 (fun i s => s.length = 4 * i ∧ inB (4 * B + 2) s) (by
  intro i s hi ⟨g1, g2⟩
  have a0 := Xkt hb (i := 4 * i) (by omega)
  have a1 := Xkt hb (i := 4 * i + 1) (by omega)
  have a2 := Xkt hb (i := 4 * i + 2) (by omega)
  have a3 := Xkt hb (i := 4 * i + 3) (by omega)
  obtain ⟨f, ef, f1, f2⟩ := Xf5 (p.getD (4 * i + 1) 0) 2 (by omega) (Or.inl rfl)
  obtain ⟨g, eg, g1', g2'⟩ := Xf5 (p.getD (4 * i + 3) 0) 2 (by omega) (Or.inl rfl)
  unfold Xbl
  simp only
  rw [syA, wkA (e := 4 * (i : Int)), wkA (e := 4 * (i : Int) + 1), wkA (e := 4 * (i : Int) + 2), wkA (e := 4 * (i : Int) + 3), rqA, rqA, rqA, rqA, show (4 * (i : Int)).toNat = 4 * i by omega, show (4 * (i : Int) + 1).toNat = 4 * i + 1 by omega, show (4 * (i : Int) + 2).toNat = 4 * i + 2 by omega, show (4 * (i : Int) + 3).toNat = 4 * i + 3 by omega, ef, Xag, eg, Xag]
  generalize p.getD (4 * i) 0 = a at *
  generalize p.getD (4 * i + 1) 0 = b at *
  generalize p.getD (4 * i + 2) 0 = c at *
  generalize p.getD (4 * i + 3) 0 = d at *
  rw [wkA (e := (i : Int) + 1), wkA (e := a + c), wkA (e := a - c), wkA (e := b + g), wkA (e := f - d), wkA (e := a + c + (b + g)), wkA (e := a - c + (f - d)), wkA (e := a - c - (f - d)), wkA (e := a + c - (b + g)), Xb7 (by simp only [List.length_cons, List.length_nil]; omega)]
  exact ⟨_, rfl, by simp; omega, Xo3 g2 (Ye0 (by omega) (by omega) (by omega) (by omega))⟩) (by intro s; unfold Xbl; rw [Xaz (by simp)]) [] ⟨rfl, Yah _⟩
 exact ⟨o, (Xl9 e).trans rfl, h1, h2⟩
theorem Xj8 (p : List Int) (hl : p.length = 16) (hb : inB 10000000 p) : ∃ o, Xdg p = some o ∧ o.length = 16 ∧ inB 10000000 o := by
 unfold Xdg
 obtain ⟨a, ea, a1, a2⟩ := Xkd p 10000000 (by omega) hl hb
 obtain ⟨b, eb, b1, b2⟩ := Xk4 a _ (by omega) a1 a2
 obtain ⟨c, ec, c1, c2⟩ := Xkd b _ (by omega) b1 b2
 obtain ⟨d, ed, d1, d2⟩ := Xk4 c _ (by omega) c1 c2
 rw [Xfe p 16 10000000 (by omega) (by omega) (by omega) hb, Xag, Bool.not_true, Xa7, ea, Xag, eb, Xag, ec, Xag, ed, Xag]
 obtain ⟨r, er, r1, r2⟩ := Xlg (f := Xdk) 16 (fun x => -160000010 ≤ x ∧ x ≤ 160000010) (fun x => -10000000 ≤ x ∧ x ≤ 10000000) (by
  intro i l hi hll hx
  obtain ⟨d, ed, d1, d2⟩ := Xf5 (l.getD i 0 + 32) 64 (by omega) (Or.inr rfl)
  unfold Xdk
  simp only [Int.toNat_natCast]
  rw [syA, rqA, rqA, wkA (e := l.getD i 0 + 32), ed, Xag, rqA, rqA, wkA (e := (i : Int) + 1)]
  exact ⟨d, rfl, by omega, by omega⟩) (by intro s; unfold Xdk; rw [Xaz (by simp)]) d d1 (fun x hx => by have := d2 x hx; omega)
 exact ⟨r, (Xl9 er).trans rfl, r1, r2⟩
theorem Xjg (l qp p : Int) (hl : -5000 ≤ l ∧ l ≤ 5000) (h0 : 0 ≤ qp ∧ qp ≤ 40) (hp : 0 ≤ p ∧ p ≤ 15) : ∃ o, Xcu l qp p = some o ∧ -10000000 ≤ o ∧ o ≤ 10000000 := by
 unfold Xcu
 obtain ⟨s, es, q0, q1⟩ := Xt6 qp p h0 hp
 rw [Xai, Xag, decide_eq_true hl, Bool.not_true, Xa7, es, Xag]
 have m1 : l * s ≤ 5000 * s := Int.mul_le_mul_of_nonneg_right hl.2 q0
 have m2 : -5000 * s ≤ l * s := Int.mul_le_mul_of_nonneg_right hl.1 q0
 rw [wkA]
 exact ⟨_, rfl, by omega, by omega⟩
theorem Xjf (l qp : Int) (hl : -5000 ≤ l ∧ l ≤ 5000) (h0 : 0 ≤ qp ∧ qp ≤ 40) : ∃ o, Xct l qp = some o ∧ -5760000 ≤ o ∧ o ≤ 5760000 := by
 unfold Xct
 obtain ⟨s, es, q0, q1⟩ := Xvv qp h0
 rw [Xai, Xag, decide_eq_true hl, Bool.not_true, Xa7, es, Xag]
 have m1 : l * s ≤ 5000 * s := Int.mul_le_mul_of_nonneg_right hl.2 (by omega)
 have m2 : -5000 * s ≤ l * s := Int.mul_le_mul_of_nonneg_right hl.1 (by omega)
 rw [wkA]
 exact ⟨_, rfl, by omega, by omega⟩
theorem Ydi {l : List Int} (h : Yb8 l = true) : l.length = 64 ∧ inB 5000 l := by
 obtain ⟨h1, h2⟩ := Yb9 h
 refine ⟨h1, fun x hx => ?_⟩
 have := List.all_eq_true.1 h2 x hx
 unfold Yhd at this
 rwa [decide_eq_true_eq] at this
theorem Xyr {c : Cond} (h : Xi1 c = true) : 0 ≤ c.Qp ∧ c.Qp ≤ 40 := by
 unfold Xi1 at h
 rw [Bool.and_eq_true, decide_eq_true_eq] at h
 exact h.1
theorem Xip (p : List Int) (c : Cond) (hc : Xi1 c = true) (hp : Yb8 p = true) : ∃ o, Xb0 p c = some (o, true) ∧ o.length = 64 ∧ inB 10000000 o := by
 have hm : maxLen = 9223372036854775807 := rfl
 have hq := Xyr hc
 obtain ⟨hl, hb⟩ := Ydi hp
 unfold Xb0
 rw [Xgs, Xag, hc, Xa5, Xfe p 64 5000 (by omega) (by omega) (by omega) hb, Xag, Bool.not_true, Xag, Xa7]
 cases hE : c.Exact with
 | true =>
  obtain ⟨o, e, h1, h2⟩ := Xc7 8 (Or.inr rfl) p 5000 (by omega) (by omega) hb
  rw [Xa5, e, Xag]
  exact ⟨o, rfl, by omega, Xxf h2 (by omega)⟩
 | false =>
  rw [Xa7]
  cases hL : c.Large with
  | true =>
   obtain ⟨w, ew, w1, w2⟩ := Xc7 8 (Or.inr rfl) p 5000 (by omega) (by omega) hb
   obtain ⟨l, el, l1, l2⟩ := Xlg (f := Xa0 c) 64 (fun x => -5000 ≤ x ∧ x ≤ 5000) (fun x => -5760000 ≤ x ∧ x ≤ 5760000) (by
    intro i l hi hll hx
    obtain ⟨d, ed, d1, d2⟩ := Xjf (l.getD i 0) c.Qp hx hq
    unfold Xa0
    simp only [Int.toNat_natCast]
    rw [syA, rqA, rqA, ed, Xag, rqA, rqA, wkA (e := (i : Int) + 1)]
    exact ⟨d, rfl, d1, d2⟩) (by intro s; unfold Xa0; rw [Xaz (by simp)]) w (by omega) w2
   obtain ⟨o, e, h1, h2⟩ := Xpj l l1 l2
   rw [Xa5, ew, Xag, el, Xag, e, Xag]
   exact ⟨o, rfl, h1, h2⟩
  | false =>
   obtain ⟨o, eo, o1, o2⟩ := Xc9 (f := Xbb p c) 4 (fun k s => s.length = 64 ∧ inB 10000000 s) (by
    intro k s hk ⟨g1, g2⟩
    have hcut : ((p.drop (16 * k)).take 16).length = 16 := by rw [List.length_take, List.length_drop]; omega
    obtain ⟨a, ea, a1, a2⟩ := Xc7 4 (Or.inl rfl) ((p.drop (16 * k)).take 16) 5000 (by omega) (by omega) (Ybc (Ybb hb _) _)
    obtain ⟨l, el, l1, l2⟩ := Xlg (f := Xay c) 16 (fun x => -5000 ≤ x ∧ x ≤ 5000) (fun x => -10000000 ≤ x ∧ x ≤ 10000000) (by
     intro i l hi hll hx
     obtain ⟨d, ed, d1, d2⟩ := Xjg (l.getD i 0) c.Qp i hx hq (by omega)
     unfold Xay
     simp only [Int.toNat_natCast]
     rw [syA, rqA, rqA, ed, Xag, rqA, rqA, wkA (e := (i : Int) + 1)]
     exact ⟨d, rfl, d1, d2⟩) (by intro s; unfold Xay; rw [Xaz (by simp)]) a (by omega) a2
    obtain ⟨b, eb, b1, b2⟩ := Xj8 l l1 l2
    obtain ⟨r, er, r1, r2⟩ := Xc9 (f := Xa1 ((k : Int), s) b) 16 (fun i s => s.length = 64 ∧ inB 10000000 s) (by
     intro i s hi ⟨g1, g2⟩
     have ha := Xkt b2 (i := i) (by omega)
     unfold Xa1
     simp only
     rw [syA, rqA, rqA, rqA, rqA, rqA, rqA, Xbu (a := (k : Int)) (by omega), Xbu (a := (i : Int)) (by omega), Xb3 (a := (k : Int)) (by omega), Xb3 (a := (i : Int)) (by omega), wkA (e := (k : Int) / 2), wkA (e := (k : Int) / 2 * 4), wkA (e := (i : Int) / 4), wkA (e := (k : Int) / 2 * 4 + (i : Int) / 4), wkA (e := 8 * ((k : Int) / 2 * 4 + (i : Int) / 4)), wkA (e := (k : Int) % 2 * 4), wkA (e := 8 * ((k : Int) / 2 * 4 + (i : Int) / 4) + (k : Int) % 2 * 4), wkA (e := 8 * ((k : Int) / 2 * 4 + (i : Int) / 4) + (k : Int) % 2 * 4 + (i : Int) % 4), rqA, rqA, wkA (e := (i : Int) + 1), Int.toNat_natCast]
     exact ⟨_, rfl, by rw [List.length_set]; exact g1, Yaj g2 _ ha⟩) (by intro s; unfold Xa1; rw [Xaz (by simp)]) s ⟨g1, g2⟩
    unfold Xbb
    simp only
    rw [syA, wkA (e := 16 * (k : Int)), wkA (e := 16 * (k : Int) + 16), rqA, show (16 * (k : Int)).toNat = 16 * k by omega, show (16 * (k : Int) + 16).toNat - 16 * k = 16 by omega, ea, Xag, el, Xag, eb, Xag, er, Xag, wkA (e := (k : Int) + 1)]
    exact ⟨_, rfl, r1, r2⟩) (by intro s; unfold Xbb; rw [Xaz (by simp)]) (List.replicate (64 : Int).toNat 0) ⟨by simp, Yai _ (by omega)⟩
   rw [Xa7, rqA, eo, Xag]
   exact ⟨o, rfl, o1, o2⟩
theorem Xkg (l : List Int) (h : Xhy l = true) : Xg6 l = some true := by
 obtain ⟨h1, h2⟩ := Xkm h
 unfold Xg6
 rw [Xdr (by simp only [bne_eq_false_iff_eq]; omega), Xky l.length (f := Xd7 l) (by
  intro i hi
  have := h2 i (by omega)
  unfold Xd7
  rw [syA, rqA, Xai, Xag, Int.toNat_natCast, decide_eq_true this, Bool.not_true, Xa7, wkA]
  rfl) (by unfold Xd7; rw [snA]), Xag]
theorem Xyu {l : List Int} (h1 : l.length = 64) (h2 : ∀ x ∈ l, 0 ≤ x ∧ x ≤ 255) : Xhy l = true := by
 unfold Xhy
 rw [Bool.and_eq_true, decide_eq_true_eq, List.all_eq_true]
 exact ⟨h1, fun x hx => by unfold Yet; rw [decide_eq_true_eq]; exact h2 x hx⟩
theorem Xlz (g b : List Int) (hg : Xhy g = true) (hl : b.length = 64) (hb : inB 10000000 b) : ∃ o, Xd1 g b = some o ∧ Xhy o = true := by
 have hm : maxLen = 9223372036854775807 := rfl
 obtain ⟨g1, g2⟩ := Xkm hg
 unfold Xd1
 rw [Xkg g hg, Xag, Xa5, Xfe b 64 10000000 (by omega) (by omega) (by omega) hb, Xag, Bool.not_true, Xag, Xa7]
 obtain ⟨o, e, h1, h2⟩ := Xc9 (f := Xcs g b) 64 (fun i s => s.length = i ∧ ∀ x ∈ s, 0 ≤ x ∧ x ≤ 255) (by
  intro i s hi ⟨k1, k2⟩
  have ha := Xkt hb (i := i) (by omega)
  have hd := g2 i hi
  have br := Xht (n := g.getD i 0 + b.getD i 0) (a := 0) (b := 255) (by omega)
  unfold Xcs
  simp only [Int.toNat_natCast]
  rw [syA, rqA, rqA, wkA (e := g.getD i 0 + b.getD i 0), Xc4, Xag, Xb7 (by simp only [List.length_singleton]; omega), wkA (e := (i : Int) + 1)]
  refine ⟨_, rfl, by simp; omega, fun x hx => ?_⟩
  rcases List.mem_append.1 hx with hx | hx
  ·
   exact k2 x hx
  ·
   rw [List.mem_singleton.1 hx]; exact br) (by intro s; unfold Xcs; rw [Xaz (by simp)]) [] ⟨rfl, fun x hx => by simp at hx⟩
 exact ⟨o, (Xl9 e).trans rfl, Xyu h1 h2⟩
def Xpy (e : Xf6) : Prop := (e.Above.length = 0 ∨ e.Above.length = 8) ∧ (e.Left.length = 0 ∨ e.Left.length = 8) ∧ (∀ x ∈ e.Above, 0 ≤ x ∧ x ≤ 255) ∧ (∀ x ∈ e.Left, 0 ≤ x ∧ x ≤ 255) ∧ -1 ≤ e.Corner ∧ e.Corner ≤ 255
theorem Xrj {p : Pic} (ok : Xcw p = true) (x y : Int) : Xbh p x y 8 8 = some (Xgt p x y) := by
 obtain ⟨k1, k2, k3⟩ := Xba ok
 unfold Xbh Xgt
 rw [Xf1, Xag, ok, Xa5, Xai, Xag, Xai, Xag, wkA (e := p.Wide - 8), wkA (e := p.High - 8), Xai, Xag, Xai, Xag]
 simp only [Xfy, Xag]
 congr 1
 rw [Bool.eq_iff_iff]
 simp only [Bool.and_eq_true, decide_eq_true_eq]
 omega
theorem Xhf {p : Pic} (ok : Xcw p = true) {x y : Int} (hx : x.tmod 8 = 0) (hy : y.tmod 8 = 0) (h : Xgt p x y = true) : Xfg p x y = some true := by
 unfold Xfg
 rw [rqA, hx, rqA, hy, Xrj ok, Xag, h]
 rfl
theorem Xtx {p : Pic} (ok : Xcw p = true) {x y : Int} (hx : x.tmod 8 = 0) (hy : y.tmod 8 = 0) (h : Xgt p x y = true) : ∃ e, Xd0 p x y = some (e, true) ∧ Xpy e := by
 have hm : maxLen = 9223372036854775807 := rfl
 obtain ⟨k1, k2, k3⟩ := Xba ok
 have h' := h
 unfold Xgt at h'
 rw [decide_eq_true_eq] at h'
 unfold Xd0
 rw [Xhf ok hx hy h, Xag, Bool.not_true, Xa7]
 obtain ⟨o, e, o1, o2, o3, o4, o5, o6⟩ := Xc9 (f := Xcb p x y) 8 (fun i s => (y > 0 → s.1.length = i) ∧ (¬ y > 0 → s.1.length = 0) ∧ (x > 0 → s.2.length = i) ∧ (¬ x > 0 → s.2.length = 0) ∧ (∀ z ∈ s.1, 0 ≤ z ∧ z ≤ 255) ∧ (∀ z ∈ s.2, 0 ≤ z ∧ z ≤ 255)) (by
  intro i s hi ⟨g1, g2, g3, g4, g5, g6⟩
  obtain ⟨a, b⟩ := s
  simp only at g1 g2 g3 g4 g5 g6
  have d1 := Xjm p (x + i) (y - 1)
  have d2 := Xjm p (x - 1) (y + i)
  have st1 : ∃ a', (sel (decide (y > 0)) (bnd (Xc5 p (Xaa .i64 (x + (i : Int))) (Xaa .i64 (y - 1))) fun q16 => req ((a.length + ([q16]).length) * 8 ≤ 140737488355328 ∧ a.length + ([q16]).length ≤ maxLen) <| some (a ++ ([q16]))) (some a)) = some a' ∧ (y > 0 → a'.length = i + 1) ∧ (¬ y > 0 → a'.length = 0) ∧ (∀ z ∈ a', 0 ≤ z ∧ z ≤ 255) := by
   by_cases c : y > 0
   ·
    rw [Xhe c, wkA (e := x + (i : Int)), wkA (e := y - 1), Xf0 ok, Xag, Xb7 (by simp only [List.length_singleton]; have := g1 c; omega)]
    refine ⟨_, rfl, fun _ => by simp; exact g1 c, fun hn => absurd c hn, fun z hz => ?_⟩
    rcases List.mem_append.1 hz with hz | hz
    ·
     exact g5 z hz
    ·
     rw [List.mem_singleton.1 hz]; exact d1
   ·
    rw [Xaz c]
    exact ⟨_, rfl, fun hn => absurd hn c, fun _ => g2 c, g5⟩
  obtain ⟨a', ea, a1, a2, a3⟩ := st1
  have st2 : ∃ b', (sel (decide (x > 0)) (bnd (Xc5 p (Xaa .i64 (x - 1)) (Xaa .i64 (y + (i : Int)))) fun q17 => req ((b.length + ([q17]).length) * 8 ≤ 140737488355328 ∧ b.length + ([q17]).length ≤ maxLen) <| some (a', (b ++ ([q17])))) (some (a', b))) = some (a', b') ∧ (x > 0 → b'.length = i + 1) ∧ (¬ x > 0 → b'.length = 0) ∧ (∀ z ∈ b', 0 ≤ z ∧ z ≤ 255) := by
   by_cases c : x > 0
   ·
    rw [Xhe c, wkA (e := y + (i : Int)), wkA (e := x - 1), Xf0 ok, Xag, Xb7 (by simp only [List.length_singleton]; have := g3 c; omega)]
    refine ⟨_, rfl, fun _ => by simp; exact g3 c, fun hn => absurd c hn, fun z hz => ?_⟩
    rcases List.mem_append.1 hz with hz | hz
    ·
     exact g6 z hz
    ·
     rw [List.mem_singleton.1 hz]; exact d2
   ·
    rw [Xaz c]
    exact ⟨_, rfl, fun hn => absurd hn c, fun _ => g4 c, g6⟩
  obtain ⟨b', eb, b1, b2, b3⟩ := st2
  unfold Xcb
  simp only
  rw [syA, ea, Xag, eb, Xag, wkA (e := (i : Int) + 1)]
  exact ⟨(a', b'), rfl, a1, a2, b1, b2, a3, b3⟩) (by intro s; unfold Xcb; rw [Xaz (by simp)]) ([], []) ⟨fun _ => rfl, fun _ => rfl, fun _ => rfl, fun _ => rfl, fun z hz => by simp at hz, fun z hz => by simp at hz⟩
 rw [e, Xag, Xfy, Xag]
 have d3 := Xjm p (x - 1) (y - 1)
 have ha : o.1.length = 0 ∨ o.1.length = 8 := by
  by_cases c : y > 0
  ·
   exact Or.inr (o1 c)
  ·
   exact Or.inl (o2 c)
 have hb : o.2.length = 0 ∨ o.2.length = 8 := by
  by_cases c : x > 0
  ·
   exact Or.inr (o3 c)
  ·
   exact Or.inl (o4 c)
 cases hc : (decide (x > 0) && decide (y > 0)) with
 | true =>
  rw [Xa5, wkA (e := x - 1), wkA (e := y - 1), Xf0 ok, Xag, Xag]
  exact ⟨_, rfl, ha, hb, o5, o6, by simp only; omega, by simp only; omega⟩
 | false =>
  rw [Xa7, Xag]
  exact ⟨_, rfl, ha, hb, o5, o6, by simp only; omega, by simp only; omega⟩
theorem Xkj (l : List Int) (hl : l.length = 0 ∨ l.length = 8) (h : ∀ x ∈ l, 0 ≤ x ∧ x ≤ 255) : Xfh l = some true := by
 unfold Xfh
 have hc : (sel ((l.length : Int) != 0) (some ((l.length : Int) != 8)) (some false)) = some false := by
  rcases hl with e | e
  ·
   rw [e]; rfl
  ·
   rw [e]; rfl
 rw [hc, Xag, Xa7, Xky l.length (f := Xd8 l) (by
  intro i hi
  have := h (l.getD i 0) (by rw [Xb8 l i hi]; exact List.getElem_mem _)
  unfold Xd8
  rw [syA, rqA, Xai, Xag, Int.toNat_natCast, decide_eq_true this, Bool.not_true, Xa7, wkA]
  rfl) (by unfold Xd8; rw [snA]), Xag]
theorem Xj7 {e : Xf6} (h : Xpy e) : Xg4 e = some true := by
 obtain ⟨h1, h2, h3, h4, h5, h6⟩ := h
 unfold Xg4
 rw [Xkj _ h1 h3, Xag, Xa5, Xkj _ h2 h4, Xag, Xa5, Xai, Xag, decide_eq_true ⟨h5, h6⟩, Xag]
theorem Xjj (l : List Int) (k : Nat) (hk : k < 8) (hl : l.length = 0 ∨ l.length = 8) (h : ∀ x ∈ l, 0 ≤ x ∧ x ≤ 255) : ∃ x, Xbt l k = some x ∧ 0 ≤ x ∧ x ≤ 255 := by
 unfold Xbt
 rcases hl with e | e
 ·
  rw [Xhd (by rw [e]; rfl)]; exact ⟨_, rfl, by omega, by omega⟩
 ·
  rw [Xdr (by rw [e]; rfl), rqA, Int.toNat_natCast]
  exact ⟨_, rfl, h _ (by rw [Xb8 l k (by omega)]; exact List.getElem_mem _)⟩
theorem Xl4 {e : Xf6} (h : Xpy e) : ∃ x, Xfa e = some x ∧ 0 ≤ x ∧ x ≤ 255 := by
 obtain ⟨h1, h2, h3, h4, _, _⟩ := h
 unfold Xfa
 rw [wkA (e := (e.Above.length : Int) + (e.Left.length : Int))]
 by_cases hz : (e.Above.length : Int) + (e.Left.length : Int) = 0
 ·
  rw [Xhd (by simpa using hz)]; exact ⟨_, rfl, by omega, by omega⟩
 ·
  rw [Xdr (by simpa using hz), rqA, Xbu (by omega), wkA (e := ((e.Above.length : Int) + (e.Left.length : Int)) / 2)]
  obtain ⟨a, ea, a1, a2⟩ := Xie (f := Xdp e) e.Above.length (fun i s => 0 ≤ s ∧ s ≤ ((e.Above.length : Int) + (e.Left.length : Int)) / 2 + 255 * i) (by
   intro i s hi ⟨g1, g2⟩
   have := h3 (e.Above.getD i 0) (by rw [Xb8 _ i hi]; exact List.getElem_mem _)
   unfold Xdp
   simp only [Int.toNat_natCast]
   rw [syA, rqA, wkA (e := s + e.Above.getD i 0), wkA (e := (i : Int) + 1)]
   exact ⟨_, rfl, by omega, by omega⟩) (by intro s; unfold Xdp; rw [Xaz (by simp)]) (((e.Above.length : Int) + (e.Left.length : Int)) / 2) ⟨by omega, by omega⟩
  obtain ⟨b, eb, b1, b2⟩ := Xie (f := Xdq e) e.Left.length (fun i s => 0 ≤ s ∧ s ≤ ((e.Above.length : Int) + (e.Left.length : Int)) / 2 + 255 * e.Above.length + 255 * i) (by
   intro i s hi ⟨g1, g2⟩
   have := h4 (e.Left.getD i 0) (by rw [Xb8 _ i hi]; exact List.getElem_mem _)
   unfold Xdq
   simp only [Int.toNat_natCast]
   rw [syA, rqA, wkA (e := s + e.Left.getD i 0), wkA (e := (i : Int) + 1)]
   exact ⟨_, rfl, by omega, by omega⟩) (by intro s; unfold Xdq; rw [Xaz (by simp)]) a ⟨by omega, by omega⟩
  rw [ea, Xag, eb, Xag, Xb7 hz, Xbu b1]
  have hn : (e.Above.length : Int) + (e.Left.length : Int) = 8 ∨ (e.Above.length : Int) + (e.Left.length : Int) = 16 := by omega
  have hr : 0 ≤ b / ((e.Above.length : Int) + (e.Left.length : Int)) ∧ b / ((e.Above.length : Int) + (e.Left.length : Int)) ≤ 255 := by
   rcases hn with hn | hn <;> rw [hn] <;> omega
  rw [wkA]
  exact ⟨_, rfl, hr⟩
theorem Xt0 (m : Int) (hm0 : 0 ≤ m ∧ m ≤ 3) {e : Xf6} (h : Xpy e) : ∃ g, Xdc m e = some g ∧ Xhy g = true := by
 have hm : maxLen = 9223372036854775807 := rfl
 have h' := h
 obtain ⟨h1, h2, h3, h4, h5, h6⟩ := h'
 obtain ⟨mid, em, m1, m2⟩ := Xl4 h
 unfold Xdc
 rw [Xj7 h, Xag, Xa5, Xai, Xag, decide_eq_true hm0, Bool.not_true, Xag, Xa7]
 have hc : ∃ v, sel (decide (e.Corner < 0)) (some (128 : Int)) (some e.Corner) = some v ∧ 0 ≤ v ∧ v ≤ 255 := by
  by_cases c : e.Corner < 0
  ·
   rw [Xhe c]; exact ⟨_, rfl, by omega, by omega⟩
  ·
   rw [Xaz c]; exact ⟨_, rfl, by omega, by omega⟩
 obtain ⟨v, ev, v1, v2⟩ := hc
 rw [ev, Xag]
 obtain ⟨o, eo, o1, o2⟩ := Xc9 (f := Xbz m e v) 64 (fun i s => s.length = i ∧ ∀ x ∈ s, 0 ≤ x ∧ x ≤ 255) (by
  intro i s hi ⟨g1, g2⟩
  obtain ⟨a, ea, a1, a2⟩ := Xjj e.Above (i % 8) (by omega) h1 h3
  obtain ⟨b, eb, b1, b2⟩ := Xjj e.Left (i / 8) (by omega) h2 h4
  have br := Xht (n := b + a - v) (a := 0) (b := 255) (by omega)
  have put : ∀ z : Int, 0 ≤ z ∧ z ≤ 255 → (s ++ [z]).length = i + 1 ∧ ∀ x ∈ s ++ [z], 0 ≤ x ∧ x ≤ 255 := by
   intro z hz
   refine ⟨by simp; omega, fun x hx => ?_⟩
   rcases List.mem_append.1 hx with hx | hx
   ·
    exact g2 x hx
   ·
    rw [List.mem_singleton.1 hx]; exact hz
  unfold Xbz
  simp only
  rw [syA, rqA, Xb3 (by omega), show (i : Int) % 8 = ((i % 8 : Nat) : Int) by omega, ea, Xag, rqA, Xbu (by omega), wkA (e := (i : Int) / 8), show (i : Int) / 8 = ((i / 8 : Nat) : Int) by omega, eb, Xag, wkA (e := (i : Int) + 1), em]
  cases (m == 0) with
  | true =>
   rw [Xa5, Xag, Xb7 (by simp only [List.length_singleton]; omega), Xag]
   exact ⟨_, rfl, put _ ⟨m1, m2⟩⟩
  | false =>
   rw [Xa7]
   cases (m == 1) with
   | true =>
    rw [Xa5, Xb7 (by simp only [List.length_singleton]; omega), Xag]
    exact ⟨_, rfl, put _ ⟨a1, a2⟩⟩
   | false =>
    rw [Xa7]
    cases (m == 2) with
    | true =>
     rw [Xa5, Xb7 (by simp only [List.length_singleton]; omega), Xag]
     exact ⟨_, rfl, put _ ⟨b1, b2⟩⟩
    | false =>
     rw [Xa7, wkA (e := b + a), wkA (e := b + a - v), Xc4, Xag, Xb7 (by simp only [List.length_singleton]; omega), Xag]
     exact ⟨_, rfl, put _ br⟩) (by intro s; unfold Xbz; rw [Xaz (by simp)]) [] ⟨rfl, fun x hx => by simp at hx⟩
 exact ⟨o, (Xl9 eo).trans rfl, Xyu o1 o2⟩
theorem Xv4 {p : Pic} {x y : Int} {d : List Int} (ok : Xcw p = true) (h0 : Xgt p x y = true) (hd : Xhy d = true) : ∃ p', Xd9 p x y d = some p' ∧ Xcw p' = true ∧ p'.Wide = p.Wide ∧ p'.High = p.High := by
 have hm : maxLen = 9223372036854775807 := rfl
 obtain ⟨k1, k2, k3⟩ := Xba ok
 have ar := Xdl k1 k2
 unfold Xgt at h0
 rw [decide_eq_true_eq] at h0
 have hdl := (Xkm hd).1
 have hn := Xee p.Dots
 unfold Xd9
 rw [rqA]
 obtain ⟨o, e, o1⟩ := Xc9 (f := Xcv p x y d) 64 (fun _ s => s.length = p.Dots.size) (by
  intro i s hi g1
  have b1 : 0 ≤ (y + (i : Int) / 8) * p.Wide := Int.mul_nonneg (by omega) (by omega)
  have b2 : (y + (i : Int) / 8) * p.Wide ≤ (p.High - 1) * p.Wide := Int.mul_le_mul_of_nonneg_right (by omega) (by omega)
  have b3 : (p.High - 1) * p.Wide = p.Wide * p.High - p.Wide := by rw [Int.sub_mul, Int.one_mul, Int.mul_comm]
  unfold Xcv
  simp only
  rw [syA, rqA, rqA, rqA, Xbu (by omega), Xb3 (by omega), wkA (e := (i : Int) / 8), wkA (e := y + (i : Int) / 8), wkA (e := (y + (i : Int) / 8) * p.Wide), wkA (e := (y + (i : Int) / 8) * p.Wide + x), wkA (e := (y + (i : Int) / 8) * p.Wide + x + (i : Int) % 8), rqA, rqA, wkA (e := (i : Int) + 1)]
  exact ⟨_, rfl, by rw [List.length_set]; exact g1⟩) (by intro s; unfold Xcv; rw [Xaz (by simp)]) (Xdj p.Dots) hn
 refine ⟨_, (Xl9 e).trans rfl, Xxt k1 k2 ?_, rfl, rfl⟩
 simp only
 rw [strOfNums_size]; omega
def Xms (n : Int) : Bool := decide (n.tmod 8 = 0) && decide (8 ≤ n ∧ n ≤ 64)
theorem Xk8 (n : Int) : Xfi n = some (Xms n) := by
 unfold Xfi Xms
 rw [rqA, Xai, Xag, Xfy, Xag, Xww]
theorem Xxg {V O : Type} {f g : V → Option (Lp V O)} (I : V → Prop) (h : ∀ v, I v → f v = g v) (hI : ∀ v v', I v → g v = some (.go v') → I v') : ∀ (k : Nat) (v : V), I v → it f k v = it g k v
 | 0, _, _ => rfl
 | k + 1, v, hv => by
  rw [it, it, h v hv]
  cases e : g v with
  | none => rfl
  | some s =>
   cases s with
   | go y => exact Xxg I h hI k y (hI v y hv e)
   | done o => rfl
theorem Xpe {V O : Type} {f g : V → Option (Lp V O)} (I : V → Prop) (h : ∀ v, I v → f v = g v) (hI : ∀ v v', I v → g v = some (.go v') → I v') {v : V} (hv : I v) : loop f v = loop g v := by
 apply Option.ext
 intro o
 rw [Xel, Xel]
 exact ⟨fun ⟨k, hk⟩ => ⟨k, by rw [← Xxg I h hI k v hv]; exact hk⟩, fun ⟨k, hk⟩ => ⟨k, by rw [Xxg I h hI k v hv]; exact hk⟩⟩
theorem Yan {V O : Type} {f : V → Option (Lp V O)} {v : V} {o : O} (k : Nat) (h : it f k v = some o) : loop f v = some o := Xel.2 ⟨k, h⟩
theorem Xtc {a b : List Int} {n : Nat} (ha : a.length = n) (hb : b.length = n) (h : ∀ i : Nat, i < n → a.getD i 0 = b.getD i 0) : a = b := by
 apply List.ext_getElem (by omega)
 intro i h1 h2
 have := h i (by omega)
 rwa [Xb8 a i h1, Xb8 b i h2] at this
theorem Xgo {n : Nat} (g : Nat → Int) {i : Nat} (h : i < n) : ((List.range n).map g).getD i 0 = g i := by
 rw [Xb8 _ i (by simpa using h)]; simp
theorem Xhr {S : Type} {f : Int × S → Option (Lp (Int × S) S)} (n : Nat) (I : Nat → S → Prop) (hs : ∀ (i : Nat) (l : S), i < n → I i l → ∃ l', f ((i : Int), l) = some (.go (((i + 1 : Nat) : Int), l')) ∧ I (i + 1) l') (he : ∀ l, I n l → f ((n : Int), l) = some (.done l)) (l0 : S) (h0 : I 0 l0) : ∃ o, loop f (0, l0) = some o ∧ I n o := by
 have key : ∀ i : Nat, i ≤ n → ∀ l, I i l → ∃ o, loop f ((i : Int), l) = some o ∧ I n o := by
  refine Xhz _ ?_ ?_
  ·
   intro l h; exact ⟨l, Xnz (he l h), h⟩
  ·
   intro i hi ih l h
   obtain ⟨l', e, h'⟩ := hs i l hi h
   obtain ⟨o, e2, h2⟩ := ih l' h'
   exact ⟨o, lgo e e2, h2⟩
 exact key 0 (by omega) l0 h0
theorem Ycd {f : Int × List Int → Option (Lp (Int × List Int) (List Int))} (n : Nat) (g : Nat → Int) (l : List Int) (hl : l.length = n) (hs : ∀ (i : Nat) (s : List Int), i < n → s.length = n → s.getD i 0 = l.getD i 0 → f ((i : Int), s) = some (.go (((i + 1 : Nat) : Int), s.set i (g i)))) (he : ∀ s : List Int, s.length = n → f ((n : Int), s) = some (.done s)) : loop f (0, l) = some ((List.range n).map g) := by
 obtain ⟨o, e, h1, h2, _⟩ := Xhr (f := f) n (fun i s => s.length = n ∧ (∀ j, j < i → s.getD j 0 = g j) ∧ ∀ j, i ≤ j → s.getD j 0 = l.getD j 0) (by
  intro i s hi ⟨g1, g2, g3⟩
  refine ⟨_, hs i s hi g1 (g3 i (Nat.le_refl _)), by rw [List.length_set]; exact g1, fun j hj => ?_, fun j hj => ?_⟩
  ·
   rw [Xde s i j _ (by omega)]
   by_cases h : i = j
   ·
    rw [if_pos h, h]
   ·
    rw [if_neg h]; exact g2 j (by omega)
  ·
   rw [Xde s i j _ (by omega), if_neg (by omega)]; exact g3 j (by omega)) (fun s hs => he s hs.1) l ⟨hl, fun j hj => by omega, fun _ _ => rfl⟩
 rw [e]
 congr 1
 exact Xtc h1 (by simp) fun i hi => by rw [h2 i hi, Xgo g hi]
theorem Yaf : Xhw = Xbm := rfl
theorem Xvu (qp : Int) (h0 : 0 ≤ qp ∧ qp ≤ 40) : Xd4 qp = some (Xic qp) := by
 have h := Yd5 ⟨qp.toNat, by omega⟩
 simp only at h
 rw [show ((qp.toNat : Nat) : Int) = qp by omega] at h
 unfold Xd4
 rw [Xai, Xag, decide_eq_true (by omega), Bool.not_true, Xa7, rqA]
 have hb : (sel ((qp.tmod 6) == 0) (some (10 : Int)) (sel ((qp.tmod 6) == 1) (some 11) (sel ((qp.tmod 6) == 2) (some 13) (sel ((qp.tmod 6) == 3) (some 14) (sel ((qp.tmod 6) == 4) (some 16) (some 18)))))) = some (Xj2 qp) := by
  unfold Xj2
  simp only [Yav, beq_iff_eq]
  repeat' split
  all_goals rfl
 rw [hb, Xag]
 unfold Xic at h ⊢
 cases e : it (Xe0 qp) 10 (Xj2 qp, 0) with
 | none => rw [e] at h; simp only at h; omega
 | some q => rw [Xel.2 ⟨10, e⟩, Xag]
theorem Xxc : ∀ q : Fin 41, Xf9 (q.val : Int) = some (Xic (q.val : Int)) := by decide +kernel
theorem Xu1 (qp : Int) (h0 : 0 ≤ qp ∧ qp ≤ 40) : Xf9 qp = some (Xic qp) := by
 have := Xxc ⟨qp.toNat, by omega⟩
 simp only at this
 rwa [show ((qp.toNat : Nat) : Int) = qp by omega] at this
theorem Xyj (qp : Int) (h0 : 0 ≤ qp ∧ qp ≤ 40) : Xf9 qp = Xd4 qp := by rw [Xu1 qp h0, Xvu qp h0]
theorem Xl2 (u v : Nat) (hu : u < 8) (hv : v < 8) : Xd3 u v = some (Xey u v) := by
 have h := Yd2 ⟨u, hu⟩ ⟨v, hv⟩
 simp only at h
 unfold Xd3
 rw [Xai, Xag, decide_eq_true (by omega), Xa5, Xai, Xag, decide_eq_true (by omega), Bool.not_true, Xag, Xa7]
 unfold Xey at h ⊢
 cases e : it Xez 10 (1, (IntKind.wrap .i64 (BitVec.ofInt (IntKind.bits .i64) (u : Int) &&& BitVec.ofInt (IntKind.bits .i64) (v : Int)).toNat)) with
 | none => rw [e] at h; simp only at h; omega
 | some q => rw [Xel.2 ⟨10, e⟩, Xag]
theorem Xxb : ∀ u v : Fin 8, Xf8 (u.val : Int) (v.val : Int) = some (Xey (u.val : Int) (v.val : Int)) := by decide +kernel
theorem Xpw (u v : Nat) (hu : u < 8) (hv : v < 8) : Xf8 u v = some (Xey u v) := Xxb ⟨u, hu⟩ ⟨v, hv⟩
def Xx0 (qp p : Int) : Option Int :=
 bnd (Xgj p) fun q1 => bnd (Xa6 q1 10 16 13) fun a1 => bnd (Xa6 q1 11 18 14) fun a2 => bnd (Xa6 q1 13 20 16) fun a3 => bnd (Xa6 q1 14 23 18) fun a4 => bnd (Xa6 q1 16 25 20) fun a5 => bnd (Xa6 q1 18 29 23) fun a6 =>
 it (Xcc qp) 10 ((sel (qp.tmod 6 == 0) a1 (sel (qp.tmod 6 == 1) a2 (sel (qp.tmod 6 == 2) a3 (sel (qp.tmod 6 == 3) a4 (sel (qp.tmod 6 == 4) a5 (sel (qp.tmod 6 == 5) a6 0)))))), 0)
theorem Ydw : ∀ q : Fin 41, ∀ p : Fin 16, (Xx0 (q.val : Int) (p.val : Int)).isSome = true ∧ Xgy (q.val : Int) (p.val : Int) = Xx0 (q.val : Int) (p.val : Int) := by decide +kernel
theorem Xwp (qp p : Int) (h0 : 0 ≤ qp ∧ qp ≤ 40) (hp : 0 ≤ p ∧ p ≤ 15) : Xgy qp p = Xd2 qp p := by
 have := Ydw ⟨qp.toNat, by omega⟩ ⟨p.toNat, by omega⟩
 simp only at this
 rw [show ((qp.toNat : Nat) : Int) = qp by omega, show ((p.toNat : Nat) : Int) = p by omega] at this
 obtain ⟨h1, h2⟩ := this
 rw [h2]
 cases e : Xx0 qp p with
 | none => rw [e] at h1; cases h1
 | some o =>
  unfold Xx0 at e
  unfold Xd2
  obtain ⟨k, ek, k0, k1⟩ := Xl0 p hp
  rw [ek, Xag] at e ⊢
  rw [Xai, Xag, decide_eq_true h0, Xa5, decide_eq_false (by omega), Xag, Xa7, rqA]
  obtain ⟨a1, e1, b1⟩ := Xa4 k 10 16 13
  obtain ⟨a2, e2, b2⟩ := Xa4 k 11 18 14
  obtain ⟨a3, e3, b3⟩ := Xa4 k 13 20 16
  obtain ⟨a4, e4, b4⟩ := Xa4 k 14 23 18
  obtain ⟨a5, e5, b5⟩ := Xa4 k 16 25 20
  obtain ⟨a6, e6, b6⟩ := Xa4 k 18 29 23
  rw [e1, e2, e3, e4, e5, e6] at e ⊢
  simp only [Xag, Yd0] at e ⊢
  rw [Yan 10 e, Xag]
def Xje (n : Int) (v16 : Int × List Int) : Option (Lp (Int × List Int) (List Int)) :=
 sel (decide (v16.1 ≤ (Xaa .i64 ((Xaa .i64 (2 * n)) - 2)))) (
 bnd (it (Xfu n v16) 20 (0, v16.2)) fun v42 =>
 some (.go (Xaa .i64 (v16.1 + 1), v42))) (
 some (.done v16.2))
theorem Xzx {n : Int} {v : Int × List Int} {x : Lp (Int × List Int) (List Int)} (h : Xje n v = some x) : Xds n v = some x := by
 unfold Xje at h
 unfold Xds
 rcases Xj0 h with ⟨hb, h⟩ | ⟨hb, h⟩
 ·
  rw [hb, Xa5]
  obtain ⟨a, h1, h2⟩ := Xa9 h
  rw [Xel.2 ⟨20, h1⟩, Xag]
  exact h2
 ·
  rw [hb, Xa7]; exact h
def Xvi (n : Int) : List Int := (it (Xje n) 20 (0, [])).getD []
theorem Ygw : (it (Xje 4) 20 (0, [])).isSome = true ∧ (Xvi 4).length = 16 := by decide +kernel
theorem Ygx : (it (Xje 8) 20 (0, [])).isSome = true ∧ (Xvi 8).length = 64 := by decide +kernel
theorem Ydx : ∀ i : Fin 16, (Xvi 4).getD i.val 0 = Xdx 4 (i.val : Int) := by decide +kernel
theorem Ydy : ∀ i : Fin 64, (Xvi 8).getD i.val 0 = Xdx 8 (i.val : Int) := by decide +kernel
theorem Xo2 (n : Int) (hn : n = 4 ∨ n = 8) : Xer n = some (Xvi n) ∧ ((Xvi n).length : Int) = n * n ∧ ∀ i : Nat, (i : Int) < n * n → (Xvi n).getD i 0 = Xdx n i := by
 have h : (it (Xje n) 20 (0, [])).isSome = true ∧ ((Xvi n).length : Int) = n * n := by
  rcases hn with rfl | rfl
  ·
   have := Ygw; exact ⟨this.1, by omega⟩
  ·
   have := Ygx; exact ⟨this.1, by omega⟩
 refine ⟨?_, h.2, fun i hi => ?_⟩
 ·
  obtain ⟨o, ho⟩ := Option.isSome_iff_exists.1 h.1
  have hl := Yan 20 (Ye1 (fun v y => Xzx (n := n)) 20 _ ho)
  unfold Xer
  rw [hl, Xag]
  unfold Xvi; rw [ho]; rfl
 ·
  rcases hn with rfl | rfl
  ·
   exact Ydx ⟨i, by omega⟩
  ·
   exact Ydy ⟨i, by omega⟩
theorem Xkk (n : Int) (hn : n = 4 ∨ n = 8) (l : List Int) (hl : (l.length : Int) = n * n) : Xcn n l = Xbs n l := by
 obtain ⟨e, h1, h2⟩ := Xo2 n hn
 have hw : Xaa .i64 (n * n) = n * n := by rcases hn with rfl | rfl <;> exact wkA
 have hn2 : n * n ≤ 64 := by rcases hn with rfl | rfl <;> omega
 unfold Xcn Xbs
 rw [e]
 have : loop (Xec l (Xvi n)) (0, List.replicate (l.length : Int).toNat 0) = loop (Xbd n l) (0, List.replicate (l.length : Int).toNat 0) := by
  refine Xpe (fun v => (∃ i : Nat, v.1 = (i : Int) ∧ i ≤ l.length) ∧ v.2.length = l.length) ?_ ?_ ⟨⟨0, rfl, by omega⟩, by simp⟩
  ·
   intro ⟨i, s⟩ ⟨⟨k, ek, hk⟩, hs⟩
   simp only at hs ek
   subst ek
   unfold Xec Xbd
   simp only [Int.toNat_natCast]
   rw [hw]
   by_cases hi : (k : Int) < n * n
   ·
    have hp := Xin n hn k hi
    have h3 := h2 k hi
    simp only [h3]
    rw [syA, Xhe hi, Xi0 n hn k hi, Xag, rqA, rqA]
   ·
    rw [snA, Xaz hi]
  ·
   intro ⟨i, s⟩ v' ⟨⟨k, ek, hk⟩, hs⟩ he
   simp only at hs ek
   subst ek
   unfold Xbd at he
   simp only [Int.toNat_natCast] at he
   rw [hw] at he
   by_cases hi : (k : Int) < n * n
   ·
    have hp := Xin n hn k hi
    rw [Xhe hi, Xi0 n hn k hi, Xag, rqA, rqA, rqA, wkA] at he
    cases he
    exact ⟨⟨k + 1, rfl, by omega⟩, by rw [List.length_set]; exact hs⟩
   ·
    rw [Xaz hi] at he; cases he
 simp only [Xag, this]
def Xyf (t : Nat → Int) : Nat → Int
 | 0 => 0
 | k + 1 => Xaa .i64 (Xyf t k + t k)
def Ygt (p : List Int) (i v k : Nat) : Int := Xaa .i64 (Xey v k * p.getD (8 * i + k) 0)
def Ygg (p : List Int) (u v k : Nat) : Int := Xaa .i64 (Xey u k * p.getD (8 * k + v) 0)
def Xkn (p : List Int) : List Int := (List.range 64).map fun j => Xyf (Ygt p (j / 8) (j % 8)) 8
def Ycp (p : List Int) : List Int := (List.range 64).map fun j => Xyf (Ygg (Xkn p) (j / 8) (j % 8)) 8
theorem Xy2 (p : List Int) : (Xkn p).length = 64 := by simp [Xkn]
theorem Yd7 (p : List Int) : (Ycp p).length = 64 := by simp [Ycp]
theorem Xz5 {f1 : Int × List Int → Option (Lp (Int × List Int) (List Int))} {f2 : Int × List Int → Int × List Int → Option (Lp (Int × List Int) (List Int))} {f3 : Int × List Int → Int × List Int → Int × List Int → Option (Lp (Int × List Int) (List Int))} (t : Nat → Nat → Nat → Int)
  (h1 : ∀ v, f1 v = sel (decide (v.1 < 8)) (bnd (loop (f2 v) (0, v.2)) fun w => some (.go (Xaa .i64 (v.1 + 1), w))) (some (.done v.2)))
  (h2 : ∀ v w, f2 v w = sel (decide (w.1 < 8)) (bnd (loop (f3 v w) (0, w.2)) fun x => some (.go (Xaa .i64 (w.1 + 1), x))) (some (.done w.2)))
  (h3 : ∀ (i v k : Nat) (a b s : List Int), i < 8 → v < 8 → k < 8 → s.length = 64 → f3 ((i : Int), a) ((v : Int), b) ((k : Int), s) = some (.go (((k + 1 : Nat) : Int), s.set (8 * i + v) (Xaa .i64 (s.getD (8 * i + v) 0 + t i v k)))))
  (h4 : ∀ (i v : Nat) (a b s : List Int), f3 ((i : Int), a) ((v : Int), b) (8, s) = some (.done s)) : loop f1 (0, List.replicate 64 0) = some ((List.range 64).map fun j => Xyf (t (j / 8) (j % 8)) 8) := by
 obtain ⟨o, e, o1, o2, _⟩ := Xhr (f := f1) 8 (fun i s => s.length = 64 ∧ (∀ j, j < 8 * i → s.getD j 0 = Xyf (t (j / 8) (j % 8)) 8) ∧ ∀ j, 8 * i ≤ j → s.getD j 0 = 0) (by
  intro i s hi ⟨g1, g2, g3⟩
  obtain ⟨r, er, r1, r2, r3⟩ := Xhr (f := f2 ((i : Int), s)) 8 (fun v s => s.length = 64 ∧ (∀ j, j < 8 * i + v → s.getD j 0 = Xyf (t (j / 8) (j % 8)) 8) ∧ ∀ j, 8 * i + v ≤ j → s.getD j 0 = 0) (by
   intro v s' hv ⟨k1, k2, k3⟩
   obtain ⟨q, eq, q1, q2, q3⟩ := Xhr (f := f3 ((i : Int), s) ((v : Int), s')) 8 (fun k s => s.length = 64 ∧ (∀ j, j ≠ 8 * i + v → s.getD j 0 = s'.getD j 0) ∧ s.getD (8 * i + v) 0 = Xyf (t i v) k) (by
    intro k s'' hk ⟨m1, m2, m3⟩
    refine ⟨_, h3 i v k s s' s'' hi hv hk m1, by rw [List.length_set]; exact m1, fun j hj => ?_, ?_⟩
    ·
     rw [Xde _ _ _ _ (by omega), if_neg (fun h => hj h.symm)]; exact m2 j hj
    ·
     rw [Xde _ _ _ _ (by omega), if_pos rfl, m3]; rfl) (fun z _ => h4 i v s s' z) s' ⟨k1, fun _ _ => rfl, by rw [k3 _ (Nat.le_refl _)]; rfl⟩
   refine ⟨q, by rw [h2, Xhe (by simp only; omega), eq, Xag, wk (by simp only; omega) (by simp only; omega)]; rfl, q1, fun j hj => ?_, fun j hj => ?_⟩
   ·
    by_cases h : j = 8 * i + v
    ·
     rw [h, q3, show (8 * i + v) / 8 = i by omega, show (8 * i + v) % 8 = v by omega]
    ·
     rw [q2 j h]; exact k2 j (by omega)
   ·
    rw [q2 j (by omega)]; exact k3 j (by omega)) (fun z _ => by rw [h2, Xaz (by simp)]) s ⟨g1, g2, g3⟩
  refine ⟨r, by rw [h1, Xhe (by simp only; omega), er, Xag, wk (by simp only; omega) (by simp only; omega)]; rfl, r1, fun j hj => r2 j (by omega), fun j hj => r3 j (by omega)⟩) (fun z _ => by rw [h1, Xaz (by simp)]) (List.replicate 64 0) ⟨by simp, fun j hj => by omega, fun j _ => by
   by_cases h : j < 64
   ·
    rw [Xb8 _ _ (by rw [List.length_replicate]; exact h)]; exact List.getElem_replicate ..
   ·
    rw [List.getD_eq_getElem?_getD, List.getElem?_eq_none (by rw [List.length_replicate]; omega)]; rfl⟩
 rw [e]
 congr 1
 exact Xtc o1 (by simp) fun j hj => by rw [o2 j (by omega), Xgo (fun j => Xyf (t (j / 8) (j % 8)) 8) hj]
theorem Xzc (p : List Int) (hp : p.length = 64) : Xks p = some (Ycp p) := by
 unfold Xks
 rw [rqA]
 have e1 : loop (Xju p) (0, List.replicate (64 : Int).toNat 0) = some (Xkn p) :=
  Xz5 (f2 := Xjv p) (f3 := Xfv p) (fun i v k => Ygt p i v k) (fun _ => rfl) (fun _ _ => rfl) (fun i v k a b s hi hv hk hs => by
   unfold Xfv
   simp only
   rw [syA, wkA (e := 8 * (i : Int)), wkA (e := 8 * (i : Int) + (v : Int)), wkA (e := 8 * (i : Int) + (k : Int)), rqA, rqA, Xpw v k hv hk, Xag, rqA, rqA, rqA, wkA (e := (k : Int) + 1), show (8 * (i : Int) + (v : Int)).toNat = 8 * i + v by omega, show (8 * (i : Int) + (k : Int)).toNat = 8 * i + k by omega]
   rfl) (fun i v a b s => by unfold Xfv; rw [Xaz (by simp)])
 have e2 : loop (Xiu (Xkn p)) (0, List.replicate (64 : Int).toNat 0) = some (Ycp p) :=
  Xz5 (f2 := Xiv (Xkn p)) (f3 := Xes (Xkn p)) (fun i v k => Ygg (Xkn p) i v k) (fun _ => rfl) (fun _ _ => rfl) (fun i v k a b s hi hv hk hs => by
   have hl := Xy2 p
   unfold Xes
   simp only
   rw [syA, wkA (e := 8 * (i : Int)), wkA (e := 8 * (i : Int) + (v : Int)), wkA (e := 8 * (k : Int)), wkA (e := 8 * (k : Int) + (v : Int)), rqA, rqA, Xpw i k hi hk, Xag, rqA, rqA, rqA, rqA, wkA (e := (k : Int) + 1), show (8 * (i : Int) + (v : Int)).toNat = 8 * i + v by omega, show (8 * (k : Int) + (v : Int)).toNat = 8 * k + v by omega]
   rfl) (fun i v a b s => by unfold Xes; rw [Xaz (by simp)])
 rw [e1, Xag, rqA, e2, Xag]
theorem Xv0 (p : List Int) (hp : p.length = 64) (i v : Nat) (hi : i < 8) (hv : v < 8) : Xe9 p i v = some (Xyf (Ygt p i v) 8) := by
 obtain ⟨o, e, h⟩ := Xie (f := Xb5 p i v) 8 (fun k s => s = Xyf (Ygt p i v) k) (by
  intro k s hk g
  subst g
  unfold Xb5
  simp only
  rw [syA, wkA (e := 8 * (i : Int)), wkA (e := 8 * (i : Int) + (k : Int)), rqA, Xl2 v k hv hk, Xag, wkA (e := (k : Int) + 1), show (8 * (i : Int) + (k : Int)).toNat = 8 * i + k by omega, Int.mul_comm (p.getD _ _)]
  exact ⟨_, rfl, rfl⟩) (by intro s; unfold Xb5; rw [Xaz (by simp)]) 0 rfl
 unfold Xe9
 rw [e, Xag, h]
theorem Xug (p : List Int) (hp : p.length = 64) : Xd6 p = some (Ycp p) := by
 have hm : maxLen = 9223372036854775807 := rfl
 unfold Xd6
 obtain ⟨o, e, ho⟩ := Xc9 (f := Xbn p) 8 (fun i s => s = (List.range (8 * i)).map fun j => Xyf (Ygt p (j / 8) (j % 8)) 8) (by
  intro i s hi g
  subst g
  obtain ⟨r, er, hr⟩ := Xc9 (f := Xbo p ((i : Int), (List.range (8 * i)).map fun j => Xyf (Ygt p (j / 8) (j % 8)) 8)) 8 (fun v s => s = (List.range (8 * i + v)).map fun j => Xyf (Ygt p (j / 8) (j % 8)) 8) (by
   intro v s hv g
   subst g
   unfold Xbo
   simp only
   rw [syA, Xv0 p hp i v hi hv, Xag, Xb7 (by simp only [List.length_singleton, List.length_map, List.length_range]; omega), wkA (e := (v : Int) + 1)]
   refine ⟨_, rfl, ?_⟩
   rw [show 8 * i + (v + 1) = (8 * i + v) + 1 by omega, List.range_succ, List.map_append, List.map_singleton, show (8 * i + v) / 8 = i by omega, show (8 * i + v) % 8 = v by omega]) (by intro s; unfold Xbo; rw [Xaz (by simp)]) _ rfl
  rw [Nat.add_zero] at er
  unfold Xbn
  simp only
  rw [syA, er, Xag, wkA (e := (i : Int) + 1)]
  exact ⟨_, rfl, by rw [hr, show 8 * (i + 1) = 8 * i + 8 by omega]⟩) (by intro s; unfold Xbn; rw [Xaz (by simp)]) [] rfl
 have ho' : o = Xkn p := by rw [ho]; rfl
 rw [e, Xag, ho']
 obtain ⟨o2, e2, ho2⟩ := Xc9 (f := Xbe (Xkn p)) 8 (fun i s => s = (List.range (8 * i)).map fun j => Xyf (Ygg (Xkn p) (j / 8) (j % 8)) 8) (by
  intro i s hi g
  subst g
  obtain ⟨r, er, hr⟩ := Xc9 (f := Xbf (Xkn p) ((i : Int), (List.range (8 * i)).map fun j => Xyf (Ygg (Xkn p) (j / 8) (j % 8)) 8)) 8 (fun v s => s = (List.range (8 * i + v)).map fun j => Xyf (Ygg (Xkn p) (j / 8) (j % 8)) 8) (by
   intro v s hv g
   obtain ⟨c, ec, hc⟩ := Xie (f := Xbg (Xkn p) ((i : Int), (List.range (8 * i)).map fun j => Xyf (Ygg (Xkn p) (j / 8) (j % 8)) 8) ((v : Int), s)) 8 (fun k x => x = Xyf (Ygg (Xkn p) i v) k) (by
    intro k x hk g
    subst g
    have hl := Xy2 p
    unfold Xbg
    simp only
    rw [syA, Xl2 i k hi hk, Xag, wkA (e := 8 * (k : Int)), wkA (e := 8 * (k : Int) + (v : Int)), rqA, rqA, wkA (e := (k : Int) + 1), show (8 * (k : Int) + (v : Int)).toNat = 8 * k + v by omega]
    exact ⟨_, rfl, rfl⟩) (by intro s; unfold Xbg; rw [Xaz (by simp)]) 0 rfl
   subst g
   unfold Xbf
   simp only
   rw [syA, ec, Xag, Xb7 (by simp only [List.length_singleton, List.length_map, List.length_range]; omega), wkA (e := (v : Int) + 1)]
   refine ⟨_, rfl, ?_⟩
   rw [hc, show 8 * i + (v + 1) = (8 * i + v) + 1 by omega, List.range_succ, List.map_append, List.map_singleton, show (8 * i + v) / 8 = i by omega, show (8 * i + v) % 8 = v by omega]) (by intro s; unfold Xbf; rw [Xaz (by simp)]) _ rfl
  rw [Nat.add_zero] at er
  unfold Xbe
  simp only
  rw [syA, er, Xag, wkA (e := (i : Int) + 1)]
  exact ⟨_, rfl, by rw [hr, show 8 * (i + 1) = 8 * i + 8 by omega]⟩) (by intro s; unfold Xbe; rw [Xaz (by simp)]) [] rfl
 rw [e2, Xag, ho2]
 rfl
theorem Xr3 (l : List Int) (n B : Int) (hn : (l.length : Int) = n) (hn2 : n ≤ 1000000) (h : inB B l) : Xb6 l n (-B) B = some true := by
 rw [Xhk l n (-B) B (by omega), hn, beq_self_eq_true, Bool.and_true]
 congr 1
 rw [List.all_eq_true]
 intro x hx
 rw [decide_eq_true_eq]; exact h x hx
theorem Xn5 (o : List Int) {f : Int × List Int → Option (Lp (Int × List Int) (List Int))} (n : Nat) (hn : n ≤ 64) (hl : o.length = n) (hf : ∀ v : Int × List Int, f v = sel (decide (v.1 < (n : Int))) (req (0 ≤ v.1 ∧ v.1 < v.2.length) <| req (v.1.toNat < v.2.length) <| bnd (Xbm (Xaa .i64 ((v.2.getD v.1.toNat 0) + 32)) 64) fun q => req (0 ≤ v.1 ∧ v.1 < v.2.length) <| req (v.1.toNat < v.2.length) <| some (.go (Xaa .i64 (v.1 + 1), (v.2.set v.1.toNat q)))) (some (.done v.2))) : bnd (Xfc o) (fun q => some q.2) = bnd (loop f (0, o)) fun q => some q := by
 unfold Xfc
 have : Xh0 o = f := by
  funext v
  rw [hf, ← hl]; rfl
 rw [this]
 cases loop f (0, o) <;> rfl
theorem Xrw (p : List Int) (hl : p.length = 64) (hb : inB 10000000 p) : Xeo p = Xcr p := by
 unfold Xeo Xcr
 rw [Xr3 p 64 10000000 (by omega) (by omega) hb, Xfe p 64 10000000 (by omega) (by omega) (by omega) hb, Xag, Xag, Bool.not_true, Xa7, Xa7, Xzc p hl, Xug p hl, Xag, Xag]
 exact Xn5 (Ycp p) 64 (by omega) (Yd7 p) (fun _ => rfl)
def tgA (q : Int → Int → Int → Int → Option (Int × Int × Int × Int)) (v4 : (Int × (List Int))) : Option (Lp (Int × (List Int)) (List Int)) :=
 sel (decide (v4.1 < 16)) (
 req (0 ≤ v4.1 ∧ v4.1 < v4.2.length) <|
 req (v4.1.toNat < v4.2.length) <|
 req (0 ≤ (Xaa .i64 (v4.1 + 1)) ∧ (Xaa .i64 (v4.1 + 1)) < v4.2.length) <|
 req ((Xaa .i64 (v4.1 + 1)).toNat < v4.2.length) <|
 req (0 ≤ (Xaa .i64 (v4.1 + 2)) ∧ (Xaa .i64 (v4.1 + 2)) < v4.2.length) <|
 req ((Xaa .i64 (v4.1 + 2)).toNat < v4.2.length) <|
 req (0 ≤ (Xaa .i64 (v4.1 + 3)) ∧ (Xaa .i64 (v4.1 + 3)) < v4.2.length) <|
 req ((Xaa .i64 (v4.1 + 3)).toNat < v4.2.length) <|
 bnd (q (v4.2.getD v4.1.toNat 0) (v4.2.getD ((Xaa .i64 (v4.1 + 1)).toNat) 0) (v4.2.getD ((Xaa .i64 (v4.1 + 2)).toNat) 0) (v4.2.getD ((Xaa .i64 (v4.1 + 3)).toNat) 0)) fun q8 =>
 req (0 ≤ v4.1 ∧ v4.1 ≤ (Xaa .i64 (v4.1 + 4)) ∧ (Xaa .i64 (v4.1 + 4)) ≤ (v4.2.length : Int)) <|
 req ((v4.1.toNat + ((Xaa .i64 (v4.1 + 4)).toNat - v4.1.toNat) ≤ v4.2.length ∧ ([q8.1, q8.2.1, q8.2.2.1, q8.2.2.2]).length ≤ ((Xaa .i64 (v4.1 + 4)).toNat - v4.1.toNat))) <|
 some (.go (Xaa .i64 (v4.1 + 4), (over v4.2 v4.1.toNat ([q8.1, q8.2.1, q8.2.2.1, q8.2.2.2]))))) (
 some (.done v4.2))
def tgB (v17 : (Int × (List Int))) (q26 : (Int × Int × Int × Int)) (v28 : (Int × (List Int))) : Option (Lp (Int × (List Int)) (List Int)) :=
 sel (decide (v28.1 < 4)) (
 req (0 ≤ v28.1 ∧ v28.1 < ([q26.1, q26.2.1, q26.2.2.1, q26.2.2.2] : List Int).length) <|
 req (0 ≤ (Xaa .i64 (v17.1 + (Xaa .i64 (4 * v28.1)))) ∧ (Xaa .i64 (v17.1 + (Xaa .i64 (4 * v28.1)))) < v28.2.length) <|
 req ((Xaa .i64 (v17.1 + (Xaa .i64 (4 * v28.1)))).toNat < v28.2.length) <|
 some (.go (Xaa .i64 (v28.1 + 1), (v28.2.set ((Xaa .i64 (v17.1 + (Xaa .i64 (4 * v28.1)))).toNat) (([q26.1, q26.2.1, q26.2.2.1, q26.2.2.2] : List Int).getD v28.1.toNat 0))))) (
 some (.done v28.2))
noncomputable def tgC (q : Int → Int → Int → Int → Option (Int × Int × Int × Int)) (v17 : (Int × (List Int))) : Option (Lp (Int × (List Int)) (List Int)) :=
 sel (decide (v17.1 < 4)) (
 req (0 ≤ v17.1 ∧ v17.1 < v17.2.length) <|
 req (v17.1.toNat < v17.2.length) <|
 req (0 ≤ (Xaa .i64 (v17.1 + 4)) ∧ (Xaa .i64 (v17.1 + 4)) < v17.2.length) <|
 req ((Xaa .i64 (v17.1 + 4)).toNat < v17.2.length) <|
 req (0 ≤ (Xaa .i64 (v17.1 + 8)) ∧ (Xaa .i64 (v17.1 + 8)) < v17.2.length) <|
 req ((Xaa .i64 (v17.1 + 8)).toNat < v17.2.length) <|
 req (0 ≤ (Xaa .i64 (v17.1 + 12)) ∧ (Xaa .i64 (v17.1 + 12)) < v17.2.length) <|
 req ((Xaa .i64 (v17.1 + 12)).toNat < v17.2.length) <|
 bnd (q (v17.2.getD v17.1.toNat 0) (v17.2.getD ((Xaa .i64 (v17.1 + 4)).toNat) 0) (v17.2.getD ((Xaa .i64 (v17.1 + 8)).toNat) 0) (v17.2.getD ((Xaa .i64 (v17.1 + 12)).toNat) 0)) fun q26 =>
 bnd (loop (tgB v17 q26) (0, v17.2)) fun v30 =>
 some (.go (Xaa .i64 (v17.1 + 1), v30))) (
 some (.done v17.2))
noncomputable def Yha (q : Int → Int → Int → Int → Option (Int × Int × Int × Int)) (p0 : (List Int)) : Option (List Int) :=
 bnd (Xft p0) fun q1 =>
 bnd (loop (tgA q) (0, q1)) fun v7 =>
 bnd (loop (tgC q) (0, v7)) fun v25 =>
 some v25
theorem Yea : Xbi = Yha Xb9 := rfl
abbrev Q4 := Int × Int × Int × Int
def Xzp (q : Q4) (i : Nat) : Int := [q.1, q.2.1, q.2.2.1, q.2.2.2].getD i 0
def Xmq (t : Int → Int → Int → Int → Q4) (p : List Int) : List Int := (List.range 16).map fun j => Xzp (t (p.getD (4 * (j / 4)) 0) (p.getD (4 * (j / 4) + 1) 0) (p.getD (4 * (j / 4) + 2) 0) (p.getD (4 * (j / 4) + 3) 0)) (j % 4)
def Xm3 (p : List Int) : List Int := (List.range 16).map fun j => p.getD (j % 4 * 4 + j / 4) 0
theorem Xn2 (t : Int → Int → Int → Int → Q4) (p : List Int) : (Xmq t p).length = 16 := by simp [Xmq]
theorem Xm4 (p : List Int) : (Xm3 p).length = 16 := by simp [Xm3]
theorem Xzn {l m : List Int} {i : Nat} (h : i + m.length ≤ l.length) (j : Nat) : (over l i m).getD j 0 = if i ≤ j ∧ j < i + m.length then m.getD (j - i) 0 else l.getD j 0 := by
 rw [List.getD_eq_getElem?_getD, Ybp h]
 split <;> rw [List.getD_eq_getElem?_getD]
theorem Yfs {q : Int → Int → Int → Int → Option Q4} {t : Int → Int → Int → Int → Q4} (hq : ∀ a b c d, q a b c d = some (t a b c d)) (p : List Int) (hp : p.length = 16) : Yha q p = some (Xm3 (Xmq t (Xm3 (Xmq t p)))) := by
 have hm : maxLen = 9223372036854775807 := rfl
 unfold Yha Xft
 rw [Xb7 (by simp only [List.length_nil]; omega), Xag, List.nil_append]
 have hA : loop (tgA q) (0, p) = some (Xmq t p) := by
  have key : ∀ r : Nat, r ≤ 4 → ∀ s : List Int, s.length = 16 → (∀ j, j < 4 * r → s.getD j 0 = (Xmq t p).getD j 0) → (∀ j, 4 * r ≤ j → s.getD j 0 = p.getD j 0) → loop (tgA q) (((4 * r : Nat) : Int), s) = some (Xmq t p) := by
   refine Xhz _ ?_ ?_
   ·
    intro s h1 h2 _
    refine Xnz ?_
    unfold tgA
    rw [Xaz (by simp), Xtc h1 (Xn2 t p) h2]
   ·
    intro r hr ih s h1 h2 h3
    refine lgo (y := (((4 * (r + 1) : Nat) : Int), over s (4 * r) [Xzp (t (p.getD (4 * r) 0) (p.getD (4 * r + 1) 0) (p.getD (4 * r + 2) 0) (p.getD (4 * r + 3) 0)) 0, Xzp (t (p.getD (4 * r) 0) (p.getD (4 * r + 1) 0) (p.getD (4 * r + 2) 0) (p.getD (4 * r + 3) 0)) 1, Xzp (t (p.getD (4 * r) 0) (p.getD (4 * r + 1) 0) (p.getD (4 * r + 2) 0) (p.getD (4 * r + 3) 0)) 2, Xzp (t (p.getD (4 * r) 0) (p.getD (4 * r + 1) 0) (p.getD (4 * r + 2) 0) (p.getD (4 * r + 3) 0)) 3])) ?_ (ih _ ?_ ?_ ?_)
    ·
     unfold tgA
     simp only
     rw [syA, wkA (e := ((4 * r : Nat) : Int) + 1), wkA (e := ((4 * r : Nat) : Int) + 2), wkA (e := ((4 * r : Nat) : Int) + 3), wkA (e := ((4 * r : Nat) : Int) + 4)]
     rw [rqA, rqA, rqA, rqA, rqA, rqA, rqA, rqA, hq, Xag, rqA, Xb7 (by simp only [List.length_cons, List.length_nil]; omega)]
     rw [show (((4 * r : Nat) : Int) + 1).toNat = 4 * r + 1 by omega, show (((4 * r : Nat) : Int) + 2).toNat = 4 * r + 2 by omega, show (((4 * r : Nat) : Int) + 3).toNat = 4 * r + 3 by omega, Int.toNat_natCast, h3 _ (by omega), h3 _ (by omega), h3 _ (by omega), h3 _ (by omega)]
     rfl
    ·
     rw [Xth (by simp only [List.length_cons, List.length_nil]; omega)]; exact h1
    ·
     intro j hj
     rw [Xzn (by simp only [List.length_cons, List.length_nil]; omega)]
     simp only [List.length_cons, List.length_nil]
     by_cases h : 4 * r ≤ j
     ·
      rw [if_pos (by omega)]
      unfold Xmq
      rw [Xgo _ (by omega), show 4 * (j / 4) = 4 * r by omega]
      obtain h | h | h | h : j = 4 * r ∨ j = 4 * r + 1 ∨ j = 4 * r + 2 ∨ j = 4 * r + 3 := by omega
      ·
       rw [h, show 4 * r - 4 * r = 0 by omega, show (4 * r) % 4 = 0 by omega]; rfl
      ·
       rw [h, show 4 * r + 1 - 4 * r = 1 by omega, show (4 * r + 1) % 4 = 1 by omega]; rfl
      ·
       rw [h, show 4 * r + 2 - 4 * r = 2 by omega, show (4 * r + 2) % 4 = 2 by omega]; rfl
      ·
       rw [h, show 4 * r + 3 - 4 * r = 3 by omega, show (4 * r + 3) % 4 = 3 by omega]; rfl
     ·
      rw [if_neg (by omega)]; exact h2 j (by omega)
    ·
     intro j hj
     rw [Xzn (by simp only [List.length_cons, List.length_nil]; omega), if_neg (by simp only [List.length_cons, List.length_nil]; omega)]
     exact h3 j (by omega)
  exact key 0 (by omega) p hp (fun j hj => by omega) fun _ _ => rfl
 rw [hA, Xag]
 generalize hR : Xmq t p = R
 have hl : R.length = 16 := by rw [← hR]; exact Xn2 t p
 have hC : loop (tgC q) (0, R) = some (Xm3 (Xmq t (Xm3 R))) := by
  have at4 : ∀ j : Nat, j < 16 → (Xm3 (Xmq t (Xm3 R))).getD j 0 = Xzp (t (R.getD (j % 4) 0) (R.getD (j % 4 + 4) 0) (R.getD (j % 4 + 8) 0) (R.getD (j % 4 + 12) 0)) (j / 4) := by
   intro j hj
   rw [Xm3, Xgo _ hj, Xmq, Xgo _ (by omega), Xm3, Xgo _ (by omega), Xgo _ (by omega), Xgo _ (by omega), Xgo _ (by omega)]
   rw [show (j % 4 * 4 + j / 4) / 4 = j % 4 by omega, show (j % 4 * 4 + j / 4) % 4 = j / 4 by omega, show 4 * (j % 4) % 4 * 4 + 4 * (j % 4) / 4 = j % 4 by omega, show (4 * (j % 4) + 1) % 4 * 4 + (4 * (j % 4) + 1) / 4 = j % 4 + 4 by omega, show (4 * (j % 4) + 2) % 4 * 4 + (4 * (j % 4) + 2) / 4 = j % 4 + 8 by omega, show (4 * (j % 4) + 3) % 4 * 4 + (4 * (j % 4) + 3) / 4 = j % 4 + 12 by omega]
  obtain ⟨o, e, o1, o2, _⟩ := Xhr (f := tgC q) 4 (fun c s => s.length = 16 ∧ (∀ j, j < 16 → j % 4 < c → s.getD j 0 = (Xm3 (Xmq t (Xm3 R))).getD j 0) ∧ ∀ j, j < 16 → c ≤ j % 4 → s.getD j 0 = R.getD j 0) (by
   intro c s hc ⟨g1, g2, g3⟩
   obtain ⟨r, er, r1, r2, r3⟩ := Xhr (f := tgB ((c : Int), s) (t (R.getD c 0) (R.getD (c + 4) 0) (R.getD (c + 8) 0) (R.getD (c + 12) 0))) 4 (fun i s' => s'.length = 16 ∧ (∀ j, j < 16 → j % 4 ≠ c → s'.getD j 0 = s.getD j 0) ∧ ∀ j, j < 16 → j % 4 = c → j / 4 < i → s'.getD j 0 = Xzp (t (R.getD c 0) (R.getD (c + 4) 0) (R.getD (c + 8) 0) (R.getD (c + 12) 0)) (j / 4)) (by
    intro i s' hi ⟨k1, k2, k3⟩
    unfold tgB
    simp only
    rw [syA, Xb7 (by simp only [List.length_cons, List.length_nil]; omega), wkA (e := 4 * (i : Int)), wkA (e := (c : Int) + 4 * (i : Int)), rqA, rqA, wkA (e := (i : Int) + 1), show ((c : Int) + 4 * (i : Int)).toNat = c + 4 * i by omega, Int.toNat_natCast]
    refine ⟨_, rfl, by rw [List.length_set]; exact k1, fun j hj hjc => ?_, fun j hj hjc hji => ?_⟩
    ·
     rw [Xde _ _ _ _ (by omega), if_neg (by omega)]; exact k2 j hj hjc
    ·
     rw [Xde _ _ _ _ (by omega)]
     by_cases h : c + 4 * i = j
     ·
      rw [if_pos h, show j / 4 = i by omega]; rfl
     ·
      rw [if_neg h]; exact k3 j hj hjc (by omega)) (fun z _ => by unfold tgB; rw [Xaz (by simp)]) s ⟨g1, fun _ _ _ => rfl, fun j hj hjc hji => by omega⟩
   unfold tgC
   simp only
   rw [syA, wkA (e := (c : Int) + 4), wkA (e := (c : Int) + 8), wkA (e := (c : Int) + 12), rqA, rqA, rqA, rqA, rqA, rqA, rqA, rqA, hq, Xag, show ((c : Int) + 4).toNat = c + 4 by omega, show ((c : Int) + 8).toNat = c + 8 by omega, show ((c : Int) + 12).toNat = c + 12 by omega, Int.toNat_natCast, g3 c (by omega) (by omega), g3 (c + 4) (by omega) (by omega), g3 (c + 8) (by omega) (by omega), g3 (c + 12) (by omega) (by omega), er, Xag, wkA (e := (c : Int) + 1)]
   refine ⟨r, rfl, r1, fun j hj hjc => ?_, fun j hj hjc => ?_⟩
   ·
    by_cases h : j % 4 = c
    ·
     rw [r3 j hj h (by omega), at4 j hj, h]
    ·
     rw [r2 j hj h]; exact g2 j hj (by omega)
   ·
    rw [r2 j hj (by omega)]; exact g3 j hj (by omega)) (fun z _ => by unfold tgC; rw [Xaz (by simp)]) R ⟨hl, fun j hj hjc => by omega, fun _ _ _ => rfl⟩
  rw [e]
  congr 1
  exact Xtc o1 (Xm4 _) fun j hj => o2 j hj (by omega)
 rw [hC, Xag]
theorem Xk3 (p : List Int) (hl : p.length = 16) : Xdd p = some (Xm3 p) := by
 unfold Xdd
 rw [rqA]
 obtain ⟨o, e, o1, o2⟩ := Xhr (f := Xb1 p) 16 (fun i s => s.length = 16 ∧ ∀ j, j < 16 → j % 4 * 4 + j / 4 < i → s.getD j 0 = p.getD (j % 4 * 4 + j / 4) 0) (by
  intro i s hi ⟨g1, g2⟩
  unfold Xb1
  simp only
  rw [syA, rqA, rqA, rqA, Xb3 (by omega), Xbu (by omega), wkA (e := (i : Int) / 4), wkA (e := (i : Int) % 4 * 4), wkA (e := (i : Int) % 4 * 4 + (i : Int) / 4), rqA, rqA, wkA (e := (i : Int) + 1), Int.toNat_natCast, show ((i : Int) % 4 * 4 + (i : Int) / 4).toNat = i % 4 * 4 + i / 4 by omega]
  refine ⟨_, rfl, by rw [List.length_set]; exact g1, fun j hj hji => ?_⟩
  rw [Xde _ _ _ _ (by omega)]
  by_cases h : i % 4 * 4 + i / 4 = j
  ·
   rw [if_pos h, show j % 4 * 4 + j / 4 = i by omega]
  ·
   rw [if_neg h]; exact g2 j hj (by omega)) (fun z _ => by unfold Xb1; rw [Xaz (by simp)]) (List.replicate (16 : Int).toNat 0) ⟨by simp, fun j hj h => by omega⟩
 rw [e, Xag]
 congr 1
 exact Xtc o1 (Xm4 p) fun j hj => by rw [o2 j hj (by omega), Xm3, Xgo _ hj]
theorem Ydt {f : Int × List Int → Option (Lp (Int × List Int) (List Int))} {t : Int → Int → Int → Int → Q4} (p : List Int) (h : ∀ (i : Nat) (s : List Int), i < 4 → s.length = 4 * i → f ((i : Int), s) = some (.go (((i + 1 : Nat) : Int), s ++ [(t (p.getD (4 * i) 0) (p.getD (4 * i + 1) 0) (p.getD (4 * i + 2) 0) (p.getD (4 * i + 3) 0)).1, (t (p.getD (4 * i) 0) (p.getD (4 * i + 1) 0) (p.getD (4 * i + 2) 0) (p.getD (4 * i + 3) 0)).2.1, (t (p.getD (4 * i) 0) (p.getD (4 * i + 1) 0) (p.getD (4 * i + 2) 0) (p.getD (4 * i + 3) 0)).2.2.1, (t (p.getD (4 * i) 0) (p.getD (4 * i + 1) 0) (p.getD (4 * i + 2) 0) (p.getD (4 * i + 3) 0)).2.2.2]))) (he : ∀ s, f (4, s) = some (.done s)) : loop f (0, []) = some (Xmq t p) := by
 obtain ⟨o, e, ho⟩ := Xhr (f := f) 4 (fun i s => s = (List.range (4 * i)).map fun j => Xzp (t (p.getD (4 * (j / 4)) 0) (p.getD (4 * (j / 4) + 1) 0) (p.getD (4 * (j / 4) + 2) 0) (p.getD (4 * (j / 4) + 3) 0)) (j % 4)) (by
  intro i s hi g
  refine ⟨_, h i s hi (by rw [g]; simp), ?_⟩
  rw [g, show 4 * (i + 1) = 4 * i + 1 + 1 + 1 + 1 by omega]
  simp only [List.range_succ, List.map_append, List.map_singleton, List.append_assoc]
  rw [show (4 * i + 1 + 1 + 1) / 4 = i by omega, show (4 * i + 1 + 1) / 4 = i by omega, show (4 * i + 1) / 4 = i by omega, show 4 * i / 4 = i by omega, show (4 * i + 1 + 1 + 1) % 4 = 3 by omega, show (4 * i + 1 + 1) % 4 = 2 by omega, show (4 * i + 1) % 4 = 1 by omega, show 4 * i % 4 = 0 by omega]
  rfl) (fun z _ => he z) [] rfl
 rw [e, ho]; rfl
def Xwa (a b : Int) : Int := Xaa .i64 (if a.tmod b < 0 then Xaa .i64 (a.tdiv b) - 1 else a.tdiv b)
theorem Xlf (a b : Int) (hb : b ≠ 0) : Xbm a b = some (Xwa a b) := by
 unfold Xbm Xwa
 rw [Xb7 hb, Xb7 hb, Yci]
 split <;> rfl
def t4B (a b c d : Int) : Q4 := (Xaa .i64 ((Xaa .i64 (a + c)) + (Xaa .i64 (b + Xwa d 2))), Xaa .i64 ((Xaa .i64 (a - c)) + (Xaa .i64 (Xwa b 2 - d))), Xaa .i64 ((Xaa .i64 (a - c)) - (Xaa .i64 (Xwa b 2 - d))), Xaa .i64 ((Xaa .i64 (a + c)) - (Xaa .i64 (b + Xwa d 2))))
theorem Xm8 (a b c d : Int) : Xb9 a b c d = some (t4B a b c d) := by
 unfold Xb9
 rw [Yaf, Xlf b 2 (by omega), Xlf d 2 (by omega), Xag, Xag]; rfl
theorem Xkc (p : List Int) (hl : p.length = 16) : Xcl p = some (Xmq t4B p) := by
 have hm : maxLen = 9223372036854775807 := rfl
 unfold Xcl
 rw [Ydt (f := Xbl p) (t := t4B) p (by
  intro i s hi hs
  unfold Xbl
  simp only
  rw [syA, wkA (e := 4 * (i : Int)), wkA (e := 4 * (i : Int) + 1), wkA (e := 4 * (i : Int) + 2), wkA (e := 4 * (i : Int) + 3), rqA, rqA, rqA, rqA, show (4 * (i : Int)).toNat = 4 * i by omega, show (4 * (i : Int) + 1).toNat = 4 * i + 1 by omega, show (4 * (i : Int) + 2).toNat = 4 * i + 2 by omega, show (4 * (i : Int) + 3).toNat = 4 * i + 3 by omega, Xlf _ 2 (by omega), Xag, Xlf _ 2 (by omega), Xag, wkA (e := (i : Int) + 1), Xb7 (by simp only [List.length_cons, List.length_nil]; omega)]
  rfl) (by intro s; unfold Xbl; rw [Xaz (by simp)]), Xag]
theorem Xus (p : List Int) (hl : p.length = 16) (hb : inB 10000000 p) : Xfn p = Xdg p := by
 unfold Xfn Xdg
 rw [Xr3 p 16 10000000 (by omega) (by omega) hb, Xfe p 16 10000000 (by omega) (by omega) (by omega) hb, Xag, Xag, Bool.not_true, Xa7, Xa7, Yea, Yfs Xm8 p hl, Xkc p hl, Xag, Xag, Xk3 _ (Xn2 _ _), Xag, Xkc _ (Xm4 _), Xag, Xk3 _ (Xn2 _ _), Xag]
 exact Xn5 _ 16 (by omega) (Xm4 _) (fun _ => rfl)
theorem Xxv {β : Type} {c : Prop} [Decidable c] {k k' : Option β} (h : c → k = k') : req c k = req c k' := by
 by_cases hc : c
 ·
  rw [Xb7 hc, Xb7 hc, h hc]
 ·
  unfold req; rw [if_neg hc, if_neg hc]
theorem Xlw {β : Type} {c : Prop} [Decidable c] {k k' : Option β} (h0 : c) (h : k = k') : req c k = k' := by rw [Xb7 h0, h]
theorem Yau {β : Type} {b : Bool} {x x' y y' : β} (h : b = true → x = x') (h2 : b = false → y = y') : sel b x y = sel b x' y' := by
 cases b
 ·
  exact h2 rfl
 ·
  exact h rfl
theorem Yge {α β : Type} {x x' : Option α} {f f' : α → Option β} (h : x = x') (h2 : ∀ a, x' = some a → f a = f' a) : bnd x f = bnd x' f' := by
 subst h
 cases x with
 | none => rfl
 | some a => exact h2 a rfl
theorem Ydh {V O : Type} {f : V → Option (Lp V O)} (I : V → Prop) (J : O → Prop) (h1 : ∀ v v', I v → f v = some (.go v') → I v') (h2 : ∀ v o, I v → f v = some (.done o) → J o) {v : V} {o : O} (h : loop f v = some o) (hv : I v) : J o := by
 obtain ⟨k, hk⟩ := Xel.1 h
 clear h
 induction k generalizing v with
 | zero => cases hk
 | succ k ih =>
  rw [it] at hk
  cases e : f v with
  | none => rw [e] at hk; cases hk
  | some s =>
   rw [e] at hk
   cases s with
   | go y => exact ih (h1 v y hv e) hk
   | done o' => cases hk; exact h2 v o hv e
theorem Xry (l qp p : Int) (h0 : 0 ≤ qp ∧ qp ≤ 40) (hp : 0 ≤ p ∧ p ≤ 15) : Xeq l qp p = Xcu l qp p := by
 unfold Xeq Xcu
 rw [Xar, Xai, Xwp qp p h0 hp]
theorem Xrx (l qp : Int) (h0 : 0 ≤ qp ∧ qp ≤ 40) : Xep l qp = Xct l qp := by
 unfold Xep Xct
 rw [Xar, Xai, Xyj qp h0]
def Xn1 (k : Int) (v7 : Int × List Int) : Option (Lp (Int × List Int) (List Int)) :=
 sel (decide (v7.1 < 4)) (
 bnd (it (Xha k v7) 10 (0, v7.2)) fun v18 =>
 some (.go (Xaa .i64 (v7.1 + 1), v18))) (
 some (.done v7.2))
theorem Xzr {k : Int} {v : Int × List Int} {x : Lp (Int × List Int) (List Int)} (h : Xn1 k v = some x) : Xe2 k v = some x := by
 unfold Xn1 at h
 unfold Xe2
 rcases Xj0 h with ⟨hb, h⟩ | ⟨hb, h⟩
 ·
  rw [hb, Xa5]
  obtain ⟨a, h1, h2⟩ := Xa9 h
  rw [Xel.2 ⟨10, h1⟩, Xag]
  exact h2
 ·
  rw [hb, Xa7]; exact h
def Xim (k : Int) : List Int := (it (Xn1 k) 10 (0, [])).getD []
def Xh6 (k i : Int) : Int := (Xaa .i64 ((Xaa .i64 ((Xaa .i64 (8 * (Xaa .i64 ((Xaa .i64 ((Xaa .i64 (k.tdiv 2)) * 4)) + (Xaa .i64 (i.tdiv 4)))))) + (Xaa .i64 ((k.tmod 2) * 4)))) + (i.tmod 4)))
theorem Yaq : ∀ k : Fin 4, (it (Xn1 (k.val : Int)) 10 (0, [])).isSome = true ∧ (Xim (k.val : Int)).length = 16 ∧ ∀ i : Fin 16, (Xim (k.val : Int)).getD i.val 0 = Xh6 (k.val : Int) (i.val : Int) ∧ 0 ≤ Xh6 (k.val : Int) (i.val : Int) ∧ Xh6 (k.val : Int) (i.val : Int) < 64 := by decide +kernel
theorem Xs0 (k : Nat) (hk : k < 4) : Xgz k = some (Xim k) ∧ (Xim k).length = 16 ∧ ∀ i : Nat, i < 16 → (Xim k).getD i 0 = Xh6 k i ∧ 0 ≤ Xh6 k i ∧ Xh6 k i < 64 := by
 obtain ⟨h1, h2, h3⟩ := Yaq ⟨k, hk⟩
 refine ⟨?_, h2, fun i hi => h3 ⟨i, hi⟩⟩
 obtain ⟨o, ho⟩ := Option.isSome_iff_exists.1 h1
 have hl := Yan 10 (Ye1 (fun v y => Xzr (k := (k : Int))) 10 _ ho)
 unfold Xgz
 rw [hl, Xag]
 unfold Xim; simp only at ho; rw [ho]; rfl
theorem Xj3 (p : List Int) (c : Cond) (hc : Xi1 c = true) (hp : Yb8 p = true) : Xdu p c = Xb0 p c := by
 have hq := Xyr hc
 obtain ⟨hl, hb⟩ := Ydi hp
 unfold Xdu Xb0
 rw [Xgs, Xgp, Xi6 p (by omega), hp, hc, Xfe p 64 5000 (by omega) (by omega) (by omega) hb]
 simp only [Xag, Xa5, Bool.not_true, Xa7]
 rw [Xkk 8 (Or.inr rfl) p (by omega)]
 refine Yau (fun _ => rfl) fun _ => Yau (fun _ => ?_) fun _ => ?_
 ·
  obtain ⟨w, ew, w1, w2⟩ := Xc7 8 (Or.inr rfl) p 5000 (by omega) (by omega) hb
  rw [ew, Xag, Xag]
  have hloop : loop (Xcg c (w, true)) (0, (w, true).1) = loop (Xa0 c) (0, (w, true).1) := by
   have : Xcg c (w, true) = Xa0 c := by
    funext v
    unfold Xcg Xa0
    simp only [Xrx _ _ hq, w1, hl]
    rfl
   rw [this]
  rw [hloop]
  obtain ⟨l, el, l1, l2⟩ := Xlg (f := Xa0 c) 64 (fun x => -5000 ≤ x ∧ x ≤ 5000) (fun x => -5760000 ≤ x ∧ x ≤ 5760000) (by
   intro i l hi hll hx
   obtain ⟨d, ed, d1, d2⟩ := Xjf (l.getD i 0) c.Qp hx hq
   unfold Xa0
   simp only [Int.toNat_natCast]
   rw [syA, rqA, rqA, ed, Xag, rqA, rqA, wkA (e := (i : Int) + 1)]
   exact ⟨d, rfl, d1, d2⟩) (by intro s; unfold Xa0; rw [Xaz (by simp)]) w (by omega) w2
  simp only [el, Xag]
  rw [Xrw l l1 (Xxf l2 (by omega))]
 ·
  refine Xxv fun _ => Yge ?_ fun _ _ => rfl
  refine Xpe (fun v => (∃ k : Nat, v.1 = (k : Int) ∧ k ≤ 4) ∧ v.2.length = 64) ?_ ?_ ⟨⟨0, rfl, by omega⟩, by simp⟩
  ·
   intro ⟨k0, s⟩ ⟨⟨k, ek, hk⟩, hs⟩
   simp only at ek hs
   subst ek
   unfold Xe7 Xbb
   simp only
   refine Yau (fun hk4 => ?_) fun _ => rfl
   have hk4 : k < 4 := by have := of_decide_eq_true hk4; omega
   rw [wkA (e := 16 * (k : Int)), wkA (e := 16 * (k : Int) + 16)]
   refine Xxv fun _ => ?_
   rw [show (16 * (k : Int)).toNat = 16 * k by omega, show (16 * (k : Int) + 16).toNat - 16 * k = 16 by omega]
   have hcut : ((p.drop (16 * k)).take 16).length = 16 := by rw [List.length_take, List.length_drop]; omega
   obtain ⟨a, ea, a1, a2⟩ := Xc7 4 (Or.inl rfl) ((p.drop (16 * k)).take 16) 5000 (by omega) (by omega) (Ybc (Ybb hb _) _)
   rw [Xkk 4 (Or.inl rfl) _ (by omega), ea, Xag, Xag]
   have hloop : loop (Xca c (a, true)) (0, (a, true).1) = loop (Xay c) (0, (a, true).1) := by
    have : Xca c (a, true) = Xay c := by
     funext v
     unfold Xca Xay
     simp only [show ((a.length : Nat) : Int) = 16 by omega]
     refine Yau (fun h16 => ?_) fun _ => rfl
     have := of_decide_eq_true h16
     refine Xxv fun h0 => Xxv fun _ => ?_
     rw [Xry _ _ _ hq (by omega)]
    rw [this]
   rw [hloop]
   obtain ⟨l, el, l1, l2⟩ := Xlg (f := Xay c) 16 (fun x => -5000 ≤ x ∧ x ≤ 5000) (fun x => -10000000 ≤ x ∧ x ≤ 10000000) (by
    intro i l hi hll hx
    obtain ⟨d, ed, d1, d2⟩ := Xjg (l.getD i 0) c.Qp i hx hq (by omega)
    unfold Xay
    simp only [Int.toNat_natCast]
    rw [syA, rqA, rqA, ed, Xag, rqA, rqA, wkA (e := (i : Int) + 1)]
    exact ⟨d, rfl, d1, d2⟩) (by intro s; unfold Xay; rw [Xaz (by simp)]) a (by omega) a2
   obtain ⟨b, eb, b1, b2⟩ := Xj8 l l1 l2
   obtain ⟨q1, q2, q3⟩ := Xs0 k hk4
   simp only [el, Xag]
   rw [Xus l l1 l2, eb, Xag, Xag, q1, Xag]
   refine Yge ?_ fun _ _ => rfl
   have : Xdf b (Xim k) = Xa1 ((k : Int), s) b := by
    funext v
    unfold Xdf Xa1
    simp only [show (((Xim k).length : Nat) : Int) = 16 by omega]
    refine Yau (fun h16 => ?_) fun _ => rfl
    have h16 := of_decide_eq_true h16
    by_cases h0 : 0 ≤ v.1
    ·
     obtain ⟨i, hi⟩ : ∃ i : Nat, v.1 = (i : Int) := ⟨v.1.toNat, by omega⟩
     obtain ⟨v1, v2⟩ := v
     simp only at hi h0 h16
     subst hi
     obtain ⟨r1, r2, r3⟩ := q3 i (by omega)
     have e1 : (Xaa .i64 ((Xaa .i64 ((Xaa .i64 (8 * (Xaa .i64 ((Xaa .i64 ((Xaa .i64 ((k : Int).tdiv 2)) * 4)) + (Xaa .i64 ((i : Int).tdiv 4)))))) + (Xaa .i64 (((k : Int).tmod 2) * 4)))) + ((i : Int).tmod 4))) = Xh6 k i := rfl
     simp only [Int.toNat_natCast, r1, e1]
     refine Xlw (by omega) (Xlw (by omega) (Xlw (by omega) (Xlw (by omega) ?_)))
     refine (Xlw (by omega) (Xlw (by omega) (Xlw (by omega) (Xlw (by omega) (Xlw (by omega) (Xlw (by omega) ?_)))))).symm
     rfl
    ·
     unfold req
     rw [if_neg (by omega), if_pos (by omega), if_pos (by omega), if_pos (by omega), if_pos (by omega), if_neg (by omega)]
   rw [this]
  ·
   intro ⟨k0, s⟩ v' ⟨⟨k, ek, hk⟩, hs⟩ he
   simp only at ek hs
   subst ek
   unfold Xbb at he
   simp only at he
   rcases Xj0 he with ⟨hb4, he⟩ | ⟨_, he⟩
   ·
    have hk4 : k < 4 := by have := of_decide_eq_true hb4; omega
    obtain ⟨_, he⟩ := Xaw he
    obtain ⟨a, _, he⟩ := Xa9 he
    obtain ⟨l, _, he⟩ := Xa9 he
    obtain ⟨b, _, he⟩ := Xa9 he
    obtain ⟨r, hr, he⟩ := Xa9 he
    rw [wkA (e := (k : Int) + 1)] at he
    cases he
    refine ⟨⟨k + 1, rfl, by omega⟩, ?_⟩
    refine Ydh (f := Xa1 ((k : Int), s) b) (fun v => v.2.length = 64) (fun o => o.length = 64) ?_ ?_ hr hs
    ·
     intro v v' hv he
     unfold Xa1 at he
     rcases Xj0 he with ⟨_, he⟩ | ⟨_, he⟩
     ·
      obtain ⟨_, he⟩ := Xaw he
      obtain ⟨_, he⟩ := Xaw he
      obtain ⟨_, he⟩ := Xaw he
      obtain ⟨_, he⟩ := Xaw he
      obtain ⟨_, he⟩ := Xaw he
      obtain ⟨_, he⟩ := Xaw he
      obtain ⟨_, he⟩ := Xaw he
      obtain ⟨_, he⟩ := Xaw he
      cases he
      simp only [List.length_set]; exact hv
     ·
      cases he
    ·
     intro v o hv he
     unfold Xa1 at he
     rcases Xj0 he with ⟨_, he⟩ | ⟨_, he⟩
     ·
      obtain ⟨_, he⟩ := Xaw he
      obtain ⟨_, he⟩ := Xaw he
      obtain ⟨_, he⟩ := Xaw he
      obtain ⟨_, he⟩ := Xaw he
      obtain ⟨_, he⟩ := Xaw he
      obtain ⟨_, he⟩ := Xaw he
      obtain ⟨_, he⟩ := Xaw he
      obtain ⟨_, he⟩ := Xaw he
      cases he
     ·
      cases he; exact hv
   ·
    cases he
theorem Ye8 {S O : Type} {f g : Int × S → Option (Lp (Int × S) O)} (n : Nat) (I : Nat → S → Prop) (h : ∀ (i : Nat) (s : S), i ≤ n → I i s → f ((i : Int), s) = g ((i : Int), s)) (hI : ∀ (i : Nat) (s : S) (v' : Int × S), i ≤ n → I i s → g ((i : Int), s) = some (.go v') → v'.1 = ((i + 1 : Nat) : Int) ∧ i + 1 ≤ n ∧ I (i + 1) v'.2) {s0 : S} (h0 : I 0 s0) : loop f (0, s0) = loop g (0, s0) := by
 refine Xpe (fun v => ∃ i : Nat, v.1 = (i : Int) ∧ i ≤ n ∧ I i v.2) ?_ ?_ ⟨0, rfl, by omega, h0⟩
 ·
  intro ⟨k, s⟩ ⟨i, e, hi, hs⟩
  simp only at e hs
  subst e
  exact h i s hi hs
 ·
  intro ⟨k, s⟩ v' ⟨i, e, hi, hs⟩ he
  simp only at e hs
  subst e
  obtain ⟨a, b, c⟩ := hI i s v' hi hs he
  exact ⟨i + 1, a, b, c⟩
theorem Xys {p : Pic} (ok : Xcw p = true) (x y : Int) : Xcj p x y = Xc5 p x y := by rw [Xst ok, Xf0 ok]
theorem Xku {p : Pic} (ok : Xcw p = true) {x y : Int} (hx : x.tmod 8 = 0) (hy : y.tmod 8 = 0) (h : Xgt p x y = true) : Xbp p x y = some true := Xqi ok x y hx hy h
theorem Xwn {p : Pic} (ok : Xcw p = true) {x y : Int} (hx : x.tmod 8 = 0) (hy : y.tmod 8 = 0) (h : Xgt p x y = true) : Xgv p x y = Xd0 p x y := by
 unfold Xgv Xd0
 rw [Xeb, ok, Xku ok hx hy h, Xhf ok hx hy h]
 have : Xfm p x y = Xcb p x y := by
  funext v
  unfold Xfm Xcb
  simp only [Xys ok]
 simp only [Xag, Xa5, Bool.not_true, Xa7, this, Xys ok]
theorem Xz7 {e : Xf6} (h : Xpy e) : Xgw e = some true := by
 obtain ⟨h1, h2, h3, h4, h5, h6⟩ := h
 have side : ∀ l : List Int, (l.length = 0 ∨ l.length = 8) → (∀ x ∈ l, 0 ≤ x ∧ x ≤ 255) → bnd (sel (decide ((l.length : Int) > 0)) (bnd (Xb6 l 8 0 255) fun q10 => some (!q10)) (some false)) (fun v9 => some v9) = some false := by
  intro l hl hb
  rcases hl with e | e
  ·
   rw [snA]; rfl
  ·
   rw [syA, Xhk l 8 0 255 (by omega)]
   have : (l.all fun x => decide (0 ≤ x ∧ x ≤ 255)) = true := List.all_eq_true.2 fun x hx => decide_eq_true (hb x hx)
   rw [this, e]; rfl
 have go : ∀ (i : Nat) (l : List Int), i < 2 → ([e.Above, e.Left]).getD i Xrp = l → (l.length = 0 ∨ l.length = 8) → (∀ x ∈ l, 0 ≤ x ∧ x ≤ 255) → Xcy e (i : Int) = some (.go ((i + 1 : Nat) : Int)) := by
  intro i l hi hg hl hb
  unfold Xcy
  simp only [Int.toNat_natCast, hg]
  have hs := side l hl hb
  rw [Xhe (by simp only [List.length_cons, List.length_nil]; omega), Xb7 (by simp only [List.length_cons, List.length_nil]; omega), Xb7 (by simp only [List.length_cons, List.length_nil]; omega)]
  obtain ⟨a, ea, hs⟩ := Xa9 hs
  injection hs with hs
  subst hs
  rw [ea, Xag, Xa7, wkA]
  rfl
 unfold Xgw
 have : loop (Xcy e) 0 = some (.out ()) := by
  refine lgo (go 0 e.Above (by omega) rfl h1 h3) (lgo (go 1 e.Left (by omega) rfl h2 h4) (Xnz ?_))
  unfold Xcy
  rw [Xaz (by simp)]
 rw [this, Xag, Xar, Xag, decide_eq_true ⟨h5, h6⟩]
def Ybz (l : List Int) : Nat → Int
 | 0 => 0
 | n + 1 => Ybz l n + l.getD n 0
theorem Xll {l : List Int} (h : ∀ x ∈ l, 0 ≤ x ∧ x ≤ 255) : ∀ n : Nat, n ≤ l.length → 0 ≤ Ybz l n ∧ Ybz l n ≤ 255 * n
 | 0, _ => by simp [Ybz]
 | n + 1, hn => by
  have a := Xll h n (by omega)
  have b := h (l.getD n 0) (by rw [Xb8 l n (by omega)]; exact List.getElem_mem _)
  rw [Ybz]; omega
theorem Xyb {f : Int × Int → Option (Lp (Int × Int) Int)} {l : List Int} (hl : l.length ≤ 64) (h : ∀ x ∈ l, 0 ≤ x ∧ x ≤ 255) (hf : ∀ v, f v = sel (decide (v.2 < (l.length : Int))) (req (0 ≤ v.2 ∧ v.2 < l.length) <| some (.go (Xaa .i64 (v.1 + (l.getD v.2.toNat 0)), Xaa .i64 (v.2 + 1)))) (some (.done v.1))) (a : Int) (ha : 0 ≤ a ∧ a ≤ 100000) : loop f (a, 0) = some (a + Ybz l l.length) := by
 obtain ⟨o, e, ho⟩ := Xie (f := f) l.length (fun i s => s = a + Ybz l i) (by
  intro i s hi g
  have r := Xll h i (by omega)
  have b := h (l.getD i 0) (by rw [Xb8 l i (by omega)]; exact List.getElem_mem _)
  rw [hf]
  simp only [Int.toNat_natCast]
  rw [syA, rqA, wkA (e := s + l.getD i 0), wkA (e := (i : Int) + 1)]
  exact ⟨_, rfl, by rw [Ybz]; omega⟩) (by intro s; rw [hf, Xaz (by simp)]) a (by simp [Ybz])
 rw [e, ho]
theorem Xnu {l : List Int} (hl : l.length ≤ 64) (h : ∀ x ∈ l, 0 ≤ x ∧ x ≤ 255) : Xfd l = some (Ybz l l.length) := by
 unfold Xfd
 rw [Xyb (f := Xjt l) hl h (fun _ => rfl) 0 (by omega), Xag, Int.zero_add]
theorem Ydm {e : Xf6} (h : Xpy e) : (sel (decide ((Xaa .i64 ((e.Above.length : Int) + (e.Left.length : Int))) > 0)) (bnd (Xfd e.Above) fun q5 => bnd (Xfd e.Left) fun q6 => req ((2 : Int) ≠ 0) <| req ((Xaa .i64 ((e.Above.length : Int) + (e.Left.length : Int))) ≠ 0) <|
  some (Xaa .i64 ((Xaa .i64 ((Xaa .i64 (q5 + q6)) + (Xaa .i64 ((Xaa .i64 ((e.Above.length : Int) + (e.Left.length : Int))).tdiv 2)))).tdiv (Xaa .i64 ((e.Above.length : Int) + (e.Left.length : Int)))))) (some 128)) = Xfa e := by
 obtain ⟨h1, h2, h3, h4, h5, h6⟩ := h
 unfold Xfa
 have r1 := Xll h3 e.Above.length (Nat.le_refl _)
 have r2 := Xll h4 e.Left.length (Nat.le_refl _)
 rw [wkA (e := (e.Above.length : Int) + (e.Left.length : Int))]
 by_cases hz : (e.Above.length : Int) + (e.Left.length : Int) = 0
 ·
  rw [snA, Xhd (by simpa using hz)]
 ·
  rw [syA, Xdr (by simpa using hz), Xnu (by omega) h3, Xag, Xnu (by omega) h4, Xag, rqA, Xb7 hz, rqA, Xbu (a := (e.Above.length : Int) + (e.Left.length : Int)) (by omega), wkA (e := ((e.Above.length : Int) + (e.Left.length : Int)) / 2),
   Xyb (f := Xdp e) (by omega) h3 (fun _ => rfl) _ (by omega), Xag, Xyb (f := Xdq e) (by omega) h4 (fun _ => rfl) _ (by omega), Xag, Xb7 hz, wkA (e := Ybz e.Above e.Above.length + Ybz e.Left e.Left.length), wkA (e := Ybz e.Above e.Above.length + Ybz e.Left e.Left.length + ((e.Above.length : Int) + (e.Left.length : Int)) / 2)]
  congr 3; omega
theorem Xzm (l : List Int) (hl : l.length = 0 ∨ l.length = 8) : ∃ g, Xgd l = some g ∧ g.length = 8 ∧ ∀ k : Nat, k < 8 → Xbt l k = some (g.getD k 0) := by
 unfold Xgd
 rcases hl with e | e
 ·
  refine ⟨_, Xhd (by rw [e]; rfl), rfl, fun k hk => ?_⟩
  unfold Xbt
  rw [Xhd (by rw [e]; rfl)]
  congr 1
  obtain rfl | rfl | rfl | rfl | rfl | rfl | rfl | rfl : k = 0 ∨ k = 1 ∨ k = 2 ∨ k = 3 ∨ k = 4 ∨ k = 5 ∨ k = 6 ∨ k = 7 := by omega
  all_goals rfl
 ·
  refine ⟨l, Xdr (by rw [e]; rfl), e, fun k hk => ?_⟩
  unfold Xbt
  rw [Xdr (by rw [e]; rfl), rqA, Int.toNat_natCast]
theorem Xwx (n a b : Int) : Xcf n a b = Xck n a b := by rw [Xfl, Xc4]
def Xor (m mid v : Int) (A B : List Int) (i : Nat) : Int := sel (m == 0) mid (sel (m == 1) (A.getD (i % 8) 0) (sel (m == 2) (B.getD (i / 8) 0) (Xbx (Xaa .i64 (Xaa .i64 (B.getD (i / 8) 0 + A.getD (i % 8) 0) - v)) 0 255)))
theorem Yb7 {f1 : Int × List Int → Option (Lp (Int × List Int) (List Int))} {f2 : Int × List Int → Int × List Int → Option (Lp (Int × List Int) (List Int))} (g : Nat → Int)
  (h1 : ∀ v, f1 v = sel (decide (v.1 < 8)) (bnd (loop (f2 v) (0, v.2)) fun w => some (.go (Xaa .i64 (v.1 + 1), w))) (some (.done v.2)))
  (h2 : ∀ (r c : Nat) (a s : List Int), r < 8 → c < 8 → s.length = 8 * r + c → f2 ((r : Int), a) ((c : Int), s) = some (.go (((c + 1 : Nat) : Int), s ++ [g (8 * r + c)])))
  (h3 : ∀ (r : Nat) (a s : List Int), f2 ((r : Int), a) (8, s) = some (.done s)) : loop f1 (0, []) = some ((List.range 64).map g) := by
 obtain ⟨o, e, ho⟩ := Xc9 (f := f1) 8 (fun r s => s = (List.range (8 * r)).map g) (by
  intro r s hr hs
  obtain ⟨q, eq, hq⟩ := Xhr (f := f2 ((r : Int), s)) 8 (fun c s' => s' = (List.range (8 * r + c)).map g) (by
   intro c s' hc hs'
   exact ⟨_, h2 r c s s' hr hc (by rw [hs']; simp), by rw [hs', show 8 * r + (c + 1) = (8 * r + c) + 1 by omega, List.range_succ, List.map_append]; rfl⟩) (fun z _ => h3 r s z) s hs
  rw [h1]
  refine ⟨q, ?_, by rw [hq, show 8 * (r + 1) = 8 * r + 8 by omega]⟩
  simp only
  rw [syA, eq, Xag, wkA]
  rfl) (by intro s; rw [h1, Xaz (by simp)]) [] rfl
 rw [e, ho]
theorem Xyi (m : Int) (hm0 : 0 ≤ m ∧ m ≤ 3) {e : Xf6} (h : Xpy e) : ∃ g, Xfb m e = some g ∧ Xdc m e = some g := by
 have hm : maxLen = 9223372036854775807 := rfl
 obtain ⟨mid, em, m1, m2⟩ := Xl4 h
 obtain ⟨A, eA, hA, fA⟩ := Xzm e.Above h.1
 obtain ⟨B, eB, hB, fB⟩ := Xzm e.Left h.2.1
 obtain ⟨v, ev⟩ : ∃ v, sel (decide (e.Corner < 0)) (some (128 : Int)) (some e.Corner) = some v := by rw [Yd0]; exact ⟨_, rfl⟩
 refine ⟨(List.range 64).map (Xor m mid v A B), ?_, ?_⟩
 ·
  unfold Xfb
  rw [Xz7 h, Xag, Xa5, Xar, Xag, decide_eq_true hm0, Bool.not_true, Xag, Xa7, Ydm h, em, Xag, eA, Xag, eB, Xag, ev, Xag, Yb7 (f1 := Xg9 m mid A B v) (f2 := Xdi m mid A B v) (Xor m mid v A B) (fun _ => rfl) ?_ ?_, Xag]
  ·
   intro r c a s hr hc hs
   unfold Xdi Xor
   simp only [Int.toNat_natCast, Xfl, Xag]
   rw [syA, wkA (e := (c : Int) + 1), show (8 * r + c) % 8 = c by omega, show (8 * r + c) / 8 = r by omega]
   cases (m == 0) with
   | true => rw [Xa5, Xb7 (by simp only [List.length_singleton]; omega), Xag]; rfl
   | false =>
    rw [Xa7]
    cases (m == 1) with
    | true => rw [Xa5, rqA, Xb7 (by simp only [List.length_singleton]; omega), Xag]; rfl
    | false =>
     rw [Xa7]
     cases (m == 2) with
     | true => rw [Xa5, rqA, Xb7 (by simp only [List.length_singleton]; omega), Xag]; rfl
     | false => rw [Xa7, rqA, rqA, Xb7 (by simp only [List.length_singleton]; omega), Xag]; rfl
  ·
   intro r a s
   unfold Xdi
   rw [Xaz (by simp)]
 ·
  unfold Xdc
  rw [Xj7 h, Xag, Xa5, Xai, Xag, decide_eq_true hm0, Bool.not_true, Xag, Xa7, ev, Xag]
  obtain ⟨o, eo, ho⟩ := Xc9 (f := Xbz m e v) 64 (fun i s => s = (List.range i).map (Xor m mid v A B)) (by
   intro i s hi hs
   have hlen : s.length = i := by rw [hs]; simp
   refine ⟨s ++ [Xor m mid v A B i], ?_, by rw [hs, List.range_succ, List.map_append]; rfl⟩
   unfold Xbz Xor
   simp only
   rw [syA, rqA, Xb3 (by omega), show (i : Int) % 8 = ((i % 8 : Nat) : Int) by omega, fA _ (by omega), Xag, rqA, Xbu (by omega), wkA (e := (i : Int) / 8), show (i : Int) / 8 = ((i / 8 : Nat) : Int) by omega, fB _ (by omega), Xag, wkA (e := (i : Int) + 1), em]
   cases (m == 0) with
   | true => rw [Xa5, Xag, Xb7 (by simp only [List.length_singleton]; omega), Xag]; rfl
   | false =>
    rw [Xa7]
    cases (m == 1) with
    | true => rw [Xa5, Xb7 (by simp only [List.length_singleton]; omega), Xag]; rfl
    | false =>
     rw [Xa7]
     cases (m == 2) with
     | true => rw [Xa5, Xb7 (by simp only [List.length_singleton]; omega), Xag]; rfl
     | false => rw [Xa7, Xc4, Xag, Xb7 (by simp only [List.length_singleton]; omega), Xag]; rfl) (by intro s; unfold Xbz; rw [Xaz (by simp)]) [] rfl
  rw [eo, Xag, ho]
theorem Xwo (m : Int) (hm0 : 0 ≤ m ∧ m ≤ 3) {e : Xf6} (h : Xpy e) : Xfb m e = Xdc m e := by
 obtain ⟨g, h1, h2⟩ := Xyi m hm0 h
 rw [h1, h2]
theorem Xpv (g b : List Int) (hg : Xhy g = true) (hl : b.length = 64) (hb : inB 10000000 b) : Xf7 g b = Xd1 g b := by
 obtain ⟨g1, g2⟩ := Xkm hg
 unfold Xf7 Xd1
 rw [Xkg g hg, Xss g (by omega), hg, Xr3 b 64 10000000 (by omega) (by omega) hb, Xfe b 64 10000000 (by omega) (by omega) (by omega) hb]
 have : Xgq g b = Xcs g b := by
  funext v
  unfold Xgq Xcs
  simp only [Xwx, show ((g.length : Nat) : Int) = 64 by omega]
 simp only [Xag, Xa5, Bool.not_true, Xa7, this]
theorem Xz2 {s : Square} (h : Xoj s = true) (h1 : s.Kind = 0) : s.Dx = 0 ∧ s.Dy = 0 := by
 unfold Xoj at h
 rw [h1] at h
 simp at h
 exact ⟨h.2.1, h.2.2.1⟩
theorem Yfg {s : Square} (h : Xoj s = true) : (-16 ≤ s.Dx ∧ s.Dx ≤ 16) ∧ (-16 ≤ s.Dy ∧ s.Dy ≤ 16) := by
 have hk := Xz1 h
 obtain h1 | h1 | h1 : s.Kind = 0 ∨ s.Kind = 1 ∨ s.Kind = 2 := by omega
 ·
  obtain ⟨a, b⟩ := Xz2 h h1; omega
 ·
  obtain ⟨a, b, _⟩ := Ybv h h1; exact ⟨a, b⟩
 ·
  unfold Xoj at h
  rw [h1] at h
  simp at h
  omega
theorem Xsw (s : Square) (c : Cond) : Xdv s c = some (Xk9 s c) := by
 unfold Xdv Xk9
 cases c.Key <;> rfl
structure Yf7 (now ref : Pic) (l t x y : Int) (c : Cond) (q : Square) : Prop where
 ok : Xcw now = true
 hx : x.tmod 8 = 0
 hy : y.tmod 8 = 0
 h0 : Xgt now x y = true
 hl : 0 ≤ l ∧ l ≤ 256
 ht : 0 ≤ t ∧ t ≤ 256
 hc : Xi1 c = true
 hs : q.Levels.length ≤ 1048576
theorem Xwq {now ref : Pic} {l t x y : Int} {c : Cond} {q : Square} (h : Yf7 now ref l t x y c q) (hq : (Xoj q && Xk9 q c) = false) : Xby now ref l t c x y q = some ([], false) := by
 unfold Xby
 rw [Xeb, Xag, h.ok, Xa5, Xku h.ok h.hx h.hy h.h0, Xag, Xa5, Xar, Xag, decide_eq_true h.hl, Xa5, Xar, Xag, decide_eq_true h.ht, Xa5, Xj6 q (by have := h.hs; omega), Xag, Xgp, Xag, h.hc, Xa5, Xsw, Xag]
 cases h1 : Xoj q with
 | false => rfl
 | true =>
  rw [h1, Bool.true_and] at hq
  rw [hq]; rfl
theorem Xrz {now ref : Pic} {l t x y : Int} {c : Cond} {q : Square} (h : Yf7 now ref l t x y c q) (hq : Xoj q = true) (hL : Xk9 q c = true) (hr : c.Key = false → Xcw ref = true) : ∃ d, Xby now ref l t c x y q = some (d, true) ∧ Xbk now ref l t c x y q = some (d, true) ∧ Xhy d = true := by
 obtain ⟨ok, hx, hy, h0, hl, ht, hc, hs⟩ := h
 obtain ⟨k1, k2, k3⟩ := Xba ok
 have h0' := h0
 unfold Xgt at h0'
 rw [decide_eq_true_eq] at h0'
 have dxy := Yfg hq
 unfold Xbk Xby
 rw [Xhf ok hx hy h0, Xag, Xa5, Xai, Xag, decide_eq_true hl, Xa5, Xai, Xag, decide_eq_true ht, Xa5, Xka, Xag, hq, Xa5, Xgs, Xag, hc, Bool.not_true, Xag, Xa7]
 rw [Xeb, Xag, ok, Xa5, Xku ok hx hy h0, Xag, Xa5, Xar, Xag, decide_eq_true hl, Xa5, Xar, Xag, decide_eq_true ht, Xa5, Xj6 q (by omega), Xag, hq, Xa5, Xgp, Xag, hc, Xa5, Xsw, Xag, hL, Xa5]
 by_cases h2 : q.Kind = 2
 ·
  obtain ⟨hm, hlv⟩ := Yfh hq h2
  obtain ⟨e, ee, he⟩ := Xtx ok hx hy h0
  obtain ⟨b, eb, b1, b2⟩ := Xip q.Levels c hc hlv
  obtain ⟨g, eg, hg⟩ := Xt0 q.Mode hm he
  obtain ⟨j, ej, hj⟩ := Xlz g b hg b1 b2
  refine ⟨j, ?_, ?_, hj⟩
  ·
   rw [Xdr (b := q.Kind != 2) (by simpa using h2), Xag, Xa7, Xdr (by rw [h2]; rfl), Xj3 q.Levels c hc hlv, eb, Xag, Xdr (by rw [h2]; rfl), Xwn ok hx hy h0, ee, Xag, Xwo q.Mode hm he, eg, Xag, Xpv g b hg b1 b2, ej, Xag]
  ·
   rw [Xhd (by simpa using h2), ee, Xag, eb, Xag, eg, Xag, ej, Xag]
 ·
  have hK : c.Key = false := by
   unfold Xk9 at hL
   cases hk : c.Key with
   | false => rfl
   | true => rw [hk] at hL; simp at hL; exact absurd hL h2
  have rok := hr hK
  rw [Xhd (b := q.Kind != 2) (by simpa using h2), Xeb, Xag, rok, Bool.not_true, Xag, Xa7]
  rw [Xdr (b := q.Kind == 2) (by simpa using h2), hK, Xa7, Xf1, Xag, rok, Bool.not_true, Xag, Xa7]
  rw [wkA (e := l + x), wkA (e := l + x + q.Dx), wkA (e := t + y), wkA (e := t + y + q.Dy), Xtt rok _ _ (by omega) (by omega), Xag, Xno rok _ _ (by omega) (by omega), Xag, Xno rok _ _ (by omega) (by omega)]
  by_cases h3 : q.Kind = 0
  ·
   obtain ⟨z1, z2⟩ := Xz2 hq h3
   rw [Xhd (b := q.Kind == 0) (by simpa using h3), Xhd (b := q.Kind == 0) (by simpa using h3), z1, z2, Int.add_zero, Int.add_zero]
   exact ⟨_, rfl, rfl, Xr5 _ _ _⟩
  ·
   have h1 : q.Kind = 1 := by have := Xz1 hq; omega
   obtain ⟨_, _, hlv⟩ := Ybv hq h1
   obtain ⟨b, eb, b1, b2⟩ := Xip q.Levels c hc hlv
   obtain ⟨j, ej, hj⟩ := Xlz _ b (Xr5 ref (l + x + q.Dx) (t + y + q.Dy)) b1 b2
   rw [Xdr (b := q.Kind == 0) (by simpa using h3), Xdr (b := q.Kind == 0) (by simpa using h3), Xj3 q.Levels c hc hlv, eb, Xag, Xag, Xhd (b := q.Kind == 1) (by simpa using h1), Xag, Xpv _ b (Xr5 _ _ _) b1 b2, ej, Xag]
   exact ⟨_, rfl, rfl, hj⟩
theorem Yfa {β : Type} {a b c : Prop} [Decidable a] [Decidable b] [Decidable c] (hb : b) (hc : c) (k : Option β) : req a (req b (req c k)) = req b (req c (req a k)) := by
 rw [Xb7 hb, Xb7 hc, Xb7 hb, Xb7 hc]
theorem Yeu {p : Pic} (ok : Xcw p = true) : p.Dots.size ≤ 65536 := by
 obtain ⟨k1, k2, k3⟩ := Xba ok
 have := Xdl k1 k2
 omega
theorem Ydp {p : Pic} {x y : Int} {d : List Int} (hd : Xhy d = true) (hp : p.Dots.size ≤ maxLen) : Xlc p x y d = Xd9 p x y d := by
 obtain ⟨d1, d2⟩ := Xkm hd
 unfold Xlc Xd9 Xnp
 rw [Xb7 hp, Xag, Xb7 hp]
 have : Xjs p x y d = Xcv p x y d := by
  funext v
  unfold Xjs Xcv
  simp only [show ((d.length : Nat) : Int) = 64 by omega]
  exact Yau (fun _ => Yfa (by omega) (by omega) _) fun _ => rfl
 rw [this]
theorem Ydk (n : Nat) (x : Int) : ((List.range n).map fun _ => x) = List.replicate n x := by
 apply List.ext_getElem
 ·
  simp
 ·
  intro i h1 h2; simp
theorem Xy7 (w h : Int) (hw : 1 ≤ w ∧ w ≤ 256) (hh : 1 ≤ h ∧ h ≤ 256) : Xko w h = some ⟨w, h, strOfNums (List.replicate (w * h).toNat 128)⟩ := by
 have ar := Xdl hw hh
 unfold Xko
 rw [Xar, Xag, decide_eq_true hw, Xa5, Xar, Xag, decide_eq_true hh, Bool.not_true, Xag, Xa7, wkA (e := w * h), rqA]
 rw [Ycd (f := Xgx w h) (w * h).toNat (fun _ => 128) (List.replicate (w * h).toNat 0) (by simp) ?_ ?_, Xag, Ydk]
 ·
  intro i s hi hs _
  unfold Xgx
  simp only [List.length_replicate, Int.toNat_natCast]
  rw [wkA (e := w * h), syA, rqA, rqA, wkA]
  rfl
 ·
  intro s hs
  unfold Xgx
  simp only [List.length_replicate]
  rw [wkA (e := w * h), snA]
theorem Xz0 (w h : Int) (hw : 1 ≤ w ∧ w ≤ 256) (hh : 1 ≤ h ∧ h ≤ 256) : Xkz w h = some ⟨w, h, strOfNums (List.replicate (w * h).toNat 128)⟩ := by
 have ar := Xdl hw hh
 unfold Xkz
 rw [Xai, Xag, decide_eq_true hw, Xa5, Xai, Xag, decide_eq_true hh, Bool.not_true, Xag, Xa7, wkA (e := w * h), show w * h = (((w * h).toNat : Nat) : Int) by omega, Xuc _ _ (by omega), Xag, Int.toNat_natCast]
def Xhg (p : Pic) (r : Rect) : Bool := decide (1 ≤ r.Wide ∧ r.Wide ≤ p.Wide) && (decide (1 ≤ r.High ∧ r.High ≤ p.High) && (decide (0 ≤ r.Left ∧ r.Left ≤ p.Wide - r.Wide) && decide (0 ≤ r.Top ∧ r.Top ≤ p.High - r.High)))
theorem Xnq {p : Pic} (ok : Xcw p = true) (r : Rect) : Xcm p r = some (Xhg p r) := by
 obtain ⟨k1, k2, k3⟩ := Xba ok
 unfold Xcm Xhg
 rw [Xar, Xar, Xag, Xag]
 by_cases h1 : 1 ≤ r.Wide ∧ r.Wide ≤ p.Wide
 ·
  rw [decide_eq_true h1, Xa5, Bool.true_and]
  by_cases h2 : 1 ≤ r.High ∧ r.High ≤ p.High
  ·
   rw [decide_eq_true h2, Xa5, Bool.true_and, wkA (e := p.Wide - r.Wide), wkA (e := p.High - r.High), Xar, Xar, Xag, Xag, Xfy, Xag]
  ·
   rw [decide_eq_false h2, Xa7, Bool.false_and]; rfl
 ·
  rw [decide_eq_false h1, Xa7, Bool.false_and]; rfl
theorem Xjh (p : Pic) (r : Rect) : Xbh p r.Left r.Top r.Wide r.High = some (Xcw p && Xhg p r) := by
 unfold Xbh Xhg
 rw [Xf1, Xag]
 cases ok : Xcw p with
 | false => rfl
 | true =>
  obtain ⟨k1, k2, k3⟩ := Xba ok
  rw [Xa5, Xai, Xai, Xag, Xag]
  by_cases h1 : 1 ≤ r.Wide ∧ r.Wide ≤ p.Wide
  ·
   rw [decide_eq_true h1, Xa5, Bool.true_and, Bool.true_and]
   by_cases h2 : 1 ≤ r.High ∧ r.High ≤ p.High
   ·
    rw [decide_eq_true h2, Xa5, Bool.true_and, wkA (e := p.Wide - r.Wide), wkA (e := p.High - r.High), Xai, Xai, Xag, Xag, Xfy, Xag]
   ·
    rw [decide_eq_false h2, Xa7, Bool.false_and]; rfl
  ·
   rw [decide_eq_false h1, Xa7, Bool.false_and]; rfl
theorem Xgu {p : Pic} {r : Rect} (h : Xhg p r = true) : (1 ≤ r.Wide ∧ r.Wide ≤ p.Wide) ∧ (1 ≤ r.High ∧ r.High ≤ p.High) ∧ (0 ≤ r.Left ∧ r.Left ≤ p.Wide - r.Wide) ∧ (0 ≤ r.Top ∧ r.Top ≤ p.High - r.High) := by
 unfold Xhg at h
 simp only [Bool.and_eq_true, decide_eq_true_eq] at h
 exact h
def Xis (p : Pic) (r : Rect) : Nat → List Int
 | 0 => []
 | n + 1 => Xis p r n ++ Xdj (p.Dots.extract ((r.Top + n) * p.Wide + r.Left).toNat ((r.Top + n) * p.Wide + r.Left + r.Wide).toNat)
theorem Yc4 {p : Pic} {r : Rect} (ok : Xcw p = true) (h : Xhg p r = true) (n : Nat) (hn : (n : Int) < r.High) : 0 ≤ (r.Top + n) * p.Wide ∧ (r.Top + n) * p.Wide + r.Left + r.Wide ≤ p.Dots.size ∧ (r.Top + n) * p.Wide ≤ 65536 ∧ (Xdj (p.Dots.extract ((r.Top + n) * p.Wide + r.Left).toNat ((r.Top + n) * p.Wide + r.Left + r.Wide).toNat)).length = r.Wide.toNat := by
 obtain ⟨k1, k2, k3⟩ := Xba ok
 obtain ⟨a1, a2, a3, a4⟩ := Xgu h
 have ar := Xdl k1 k2
 have b1 : 0 ≤ (r.Top + n) * p.Wide := Int.mul_nonneg (by omega) (by omega)
 have b2 : (r.Top + n) * p.Wide ≤ (p.High - 1) * p.Wide := Int.mul_le_mul_of_nonneg_right (by omega) (by omega)
 have b3 : (p.High - 1) * p.Wide = p.Wide * p.High - p.Wide := by rw [Int.sub_mul, Int.one_mul, Int.mul_comm]
 refine ⟨b1, by omega, by omega, ?_⟩
 rw [Xee, ByteArray.size_extract]
 omega
theorem Xma {p : Pic} {r : Rect} (ok : Xcw p = true) (h : Xhg p r = true) : ∀ n : Nat, (n : Int) ≤ r.High → ((Xis p r n).length : Int) = n * r.Wide
 | 0, _ => by simp [Xis]
 | n + 1, hn => by
  have a := Xgu h
  have b := Yc4 ok h n (by omega)
  rw [Xis, List.length_append, Int.natCast_add, Xma ok h n (by omega), b.2.2.2, Int.natCast_add, Int.add_mul]
  simp only [Int.natCast_one, Int.one_mul]
  omega
theorem Ya7 {p : Pic} {r : Rect} {f : Int × List Int → Option (Lp (Int × List Int) (List Int))} (ok : Xcw p = true) (h : Xhg p r = true) (hf : f = Xeh p r) : loop f (r.Top, []) = some (Xis p r r.High.toNat) := by
 have hm : maxLen = 9223372036854775807 := rfl
 obtain ⟨k1, k2, k3⟩ := Xba ok
 obtain ⟨a1, a2, a3, a4⟩ := Xgu h
 subst hf
 have key : ∀ n : Nat, n ≤ r.High.toNat → loop (Xeh p r) (r.Top + n, Xis p r n) = some (Xis p r r.High.toNat) := by
  refine Xhz _ ?_ ?_
  ·
   refine Xnz ?_
   unfold Xeh
   rw [wkA (e := r.Top + r.High), Xaz (by simp only; omega)]
  ·
   intro n hn ih
   refine lgo (y := (r.Top + ((n + 1 : Nat) : Int), Xis p r (n + 1))) ?_ ih
   obtain ⟨b1, b2, b3, b4⟩ := Yc4 ok h n (by omega)
   have cl := Xma ok h n (by omega)
   have cw : (n : Int) * r.Wide ≤ 256 * r.Wide := Int.mul_le_mul_of_nonneg_right (by omega) (by omega)
   unfold Xeh
   simp only
   rw [wkA (e := r.Top + r.High), syA, wkA (e := (r.Top + n) * p.Wide), wkA (e := (r.Top + n) * p.Wide + r.Left), wkA (e := (r.Top + n) * p.Wide + r.Left + r.Wide), rqA, Xb7 (by rw [b4]; omega), wkA (e := r.Top + n + 1), show r.Top + ((n + 1 : Nat) : Int) = r.Top + n + 1 by omega]
   rfl
 have := key 0 (by omega)
 simpa [Xis] using this
def Yhc (p : Pic) (r : Rect) : Pic := ⟨r.Wide, r.High, strOfNums (Xis p r r.High.toNat)⟩
theorem Ygh {p : Pic} {r : Rect} (ok : Xcw p = true) (h : Xhg p r = true) : Xcw (Yhc p r) = true := by
 obtain ⟨k1, k2, k3⟩ := Xba ok
 obtain ⟨a1, a2, a3, a4⟩ := Xgu h
 refine Xxt (by show 1 ≤ r.Wide ∧ r.Wide ≤ 256; omega) (by show 1 ≤ r.High ∧ r.High ≤ 256; omega) ?_
 show ((strOfNums _).size : Int) = r.Wide * r.High
 rw [strOfNums_size, Xma ok h _ (by omega), Int.mul_comm]
 congr 1; omega
theorem Xx5 {p : Pic} {r : Rect} (ok : Xcw p = true) (h : Xhg p r = true) : Xhx p r = some (Yhc p r, true) := by
 unfold Xhx
 rw [Xjh, ok, h, Xag]
 simp only [Bool.true_and, Bool.not_true, Xa7]
 rw [Ya7 ok h rfl, Xag]
 rfl
theorem Xw6 {p : Pic} {r : Rect} (ok : Xcw p = true) (h : Xhg p r = true) : Xhv p r = some (Yhc p r, true) := by
 obtain ⟨k1, k2, k3⟩ := Xba ok
 obtain ⟨a1, a2, a3, a4⟩ := Xgu h
 have ar := Xdl (w := r.Wide) (h := r.High) (by omega) (by omega)
 unfold Xhv
 rw [Xeb, Xag, ok, Xa5, Xnq ok, Xag, h, Bool.not_true, Xag, Xa7, wkA (e := r.Wide * r.High), rqA]
 have := Ya7 (f := Xjq p r) ok h rfl
 rw [show List.replicate (0 : Int).toNat (0 : Int) = [] from rfl, this, Xag]
 rfl
def Xiq (l : List Square) (c : Cond) : Bool := l.all fun q => Xoj q && Xk9 q c
theorem Xlr (n : Int) : Xgc n = some (Xms n) := by
 unfold Xgc Xms
 rw [rqA, Xar, Xag, Xfy, Xag, Xww]
theorem Xx9 (l : List Square) (c : Cond) (hl : l.length ≤ 1048576) : Xjk l c = some (Xi1 c && (decide (1 ≤ l.length ∧ l.length ≤ 64) && Xiq l c)) := by
 unfold Xjk
 rw [Xgs, Xag]
 cases hc : Xi1 c with
 | false => rfl
 | true =>
  rw [Xa5, Xai, Xag, Xag]
  by_cases h64 : 1 ≤ l.length ∧ l.length ≤ 64
  ·
   rw [decide_eq_true (show 1 ≤ (l.length : Int) ∧ (l.length : Int) ≤ 64 by omega), decide_eq_true h64, Bool.not_true, Xa7, Bool.true_and, Bool.true_and]
   have key : ∀ (r a : List Square), l = a ++ r → loop (Xdh l c) (a.length : Int) = some (if Xiq r c = true then .out () else .ret false) := by
    intro r
    induction r with
    | nil =>
     intro a ha
     rw [List.append_nil] at ha
     exact Xnz (by unfold Xdh; rw [Xaz (by rw [ha]; omega)]; rfl)
    | cons s r ih =>
     intro a ha
     have hlen : a.length < l.length := by rw [ha]; simp
     have hx : l.getD a.length Xas = s := by rw [ha]; exact Xw4 a s _ r
     have hn := ih (a ++ [s]) (by rw [ha]; simp)
     rw [List.length_append, List.length_singleton] at hn
     have hstep : Xdh l c (a.length : Int) = sel (!(Xoj s && Xk9 s c)) (some (.done (.ret false))) (some (.go ((a.length + 1 : Nat) : Int))) := by
      unfold Xdh
      simp only [Int.toNat_natCast, hx]
      rw [syA, rqA, show (⟨s.Kind, s.Mode, s.Dx, s.Dy, s.Levels⟩ : Square) = s from rfl, Xka, Xag, rqA, wkA]
      unfold Xk9
      cases Xoj s with
      | false => rfl
      | true =>
       cases c.Key with
       | false => rfl
       | true => rw [Xa5, Xa5, Xag, Bool.true_and, Bool.not_true, Bool.false_or]; rfl
     unfold Xiq at hn ⊢
     rw [List.all_cons]
     cases hq : (Xoj s && Xk9 s c) with
     | true =>
      rw [hq] at hstep
      rw [Xpf (hstep.trans (by rw [Bool.not_true, Xa7])), hn, Bool.true_and]
     | false =>
      rw [hq] at hstep
      rw [Xg2 (hstep.trans (by rw [Bool.not_false, Xa5]))]
      simp
   have k0 : loop (Xdh l c) 0 = some (if Xiq l c = true then .out () else .ret false) := key l [] rfl
   rw [k0, Xag]
   cases Xiq l c <;> rfl
  ·
   rw [decide_eq_false (show ¬ (1 ≤ (l.length : Int) ∧ (l.length : Int) ≤ 64) by omega), decide_eq_false h64]; rfl
theorem Xwm {w h : Int} (hw : Xms w = true) (hh : Xms h = true) (i : Nat) (hi : (i : Int) < w / 8 * (h / 8)) : (8 ≤ w ∧ w ≤ 64) ∧ (8 ≤ h ∧ h ≤ 64) ∧ 1 ≤ w / 8 ∧ w / 8 ≤ 8 ∧ 1 ≤ h / 8 ∧ h / 8 ≤ 8 ∧ 0 ≤ (i : Int) % (w / 8) * 8 ∧ (i : Int) % (w / 8) * 8 ≤ w - 8 ∧ 0 ≤ (i : Int) / (w / 8) * 8 ∧ (i : Int) / (w / 8) * 8 ≤ h - 8 := by
 unfold Xms at hw hh
 rw [Bool.and_eq_true, decide_eq_true_eq, decide_eq_true_eq] at hw hh
 rw [Xb3 (by omega)] at hw hh
 have h1 : 1 ≤ w / 8 ∧ w / 8 ≤ 8 := by omega
 have h2 : 1 ≤ h / 8 ∧ h / 8 ≤ 8 := by omega
 have m0 : 0 ≤ (i : Int) % (w / 8) := Int.emod_nonneg _ (by omega)
 have m1 : (i : Int) % (w / 8) < w / 8 := Int.emod_lt_of_pos _ (by omega)
 have d0 : 0 ≤ (i : Int) / (w / 8) := Int.ediv_nonneg (by omega) (by omega)
 have d1 : (i : Int) / (w / 8) < h / 8 := Int.ediv_lt_of_lt_mul (by omega) (by rw [Int.mul_comm]; exact hi)
 exact ⟨hw.2, hh.2, h1.1, h1.2, h2.1, h2.2, by omega, by omega, by omega, by omega⟩
theorem Xj1 {w : Int} (hw : Xms w = true) : w % 8 = 0 ∧ 8 ≤ w ∧ w ≤ 64 := by
 unfold Xms at hw
 rw [Bool.and_eq_true, decide_eq_true_eq, decide_eq_true_eq] at hw
 rw [Xb3 (by omega)] at hw
 exact ⟨hw.1, hw.2⟩
structure Yem (ref : Pic) (le tp : Int) (r : Rect) (c : Cond) (l : List Square) : Prop where
 hw : Xms r.Wide = true
 hh : Xms r.High = true
 hl : 0 ≤ le ∧ le ≤ 256
 ht : 0 ≤ tp ∧ tp ≤ 256
 hc : Xi1 c = true
 hn : (l.length : Int) = r.Wide / 8 * (r.High / 8)
 hs : ∀ q ∈ l, q.Levels.length ≤ 1048576
 hr : c.Key = false → Xcw ref = true
def tbI (r : Rect) (v : Int × Int × ByteArray) : Prop := Xcw ⟨v.1, v.2.1, v.2.2⟩ = true ∧ v.1 = r.Wide ∧ v.2.1 = r.High
theorem Yd9 {ref : Pic} {le tp : Int} {r : Rect} {c : Cond} {l : List Square} (H : Yem ref le tp r c l) (i : Nat) (hi : i < l.length) (s : Int × Int × ByteArray) (hs : tbI r s) :
  ((Xoj (l.getD i Xas) && Xk9 (l.getD i Xas) c) = false → Xa3 r c l (le, tp, ref.Wide, ref.High, ref.Dots) ((i : Int), s) = some (.done (.ret (⟨0, 0, ⟨#[]⟩⟩, false)))) ∧
  ((Xoj (l.getD i Xas) && Xk9 (l.getD i Xas) c) = true → ∃ s', Xa3 r c l (le, tp, ref.Wide, ref.High, ref.Dots) ((i : Int), s) = some (.go (((i + 1 : Nat) : Int), s')) ∧ Xax r c l (le, tp, ref.Wide, ref.High, ref.Dots) ((i : Int), s) = some (.go (((i + 1 : Nat) : Int), s')) ∧ tbI r s') := by
 obtain ⟨hw, hh, hl, ht, hc, hn, hls, hr⟩ := H
 obtain ⟨w, h, dt⟩ := s
 obtain ⟨ok, e1, e2⟩ := hs
 simp only at ok e1 e2
 subst e1; subst e2
 obtain ⟨p1, p2, p3, p4, p5, p6, p7, p8, p9, p10⟩ := Xwm hw hh i (by omega)
 have hmem : l.getD i Xas ∈ l := by rw [Xb8 l i hi]; exact List.getElem_mem _
 have held : Xgt (⟨r.Wide, r.High, dt⟩ : Pic) ((i : Int) % (r.Wide / 8) * 8) ((i : Int) / (r.Wide / 8) * 8) = true := by
  unfold Xgt; rw [decide_eq_true_eq]; exact ⟨p7, p8, p9, p10⟩
 have SD : Yf7 (⟨r.Wide, r.High, dt⟩ : Pic) ref le tp ((i : Int) % (r.Wide / 8) * 8) ((i : Int) / (r.Wide / 8) * 8) c (l.getD i Xas) :=
  ⟨ok, by rw [Xb3 p7]; omega, by rw [Xb3 p9]; omega, held, hl, ht, hc, hls _ hmem⟩
 have l64 : l.length ≤ 64 := by
  have : r.Wide / 8 * (r.High / 8) ≤ 8 * 8 := Int.mul_le_mul (by omega) (by omega) (by omega) (by omega)
  omega
 have eI : Xa3 r c l (le, tp, ref.Wide, ref.High, ref.Dots) ((i : Int), r.Wide, r.High, dt) = bnd (Xby (⟨r.Wide, r.High, dt⟩ : Pic) ref le tp c ((i : Int) % (r.Wide / 8) * 8) ((i : Int) / (r.Wide / 8) * 8) (l.getD i Xas)) fun q21 => sel (!q21.2) (some (.done (.ret (⟨0, 0, ⟨#[]⟩⟩, false)))) (bnd (Xlc (⟨r.Wide, r.High, dt⟩ : Pic) ((i : Int) % (r.Wide / 8) * 8) ((i : Int) / (r.Wide / 8) * 8) q21.1) fun q22 => some (.go (((i + 1 : Nat) : Int), q22.Wide, q22.High, q22.Dots))) := by
  unfold Xa3
  simp only [Int.toNat_natCast]
  rw [syA, rqA, rqA, Xbu (a := r.Wide) (by omega), wkA (e := r.Wide / 8), rqA, rqA, rqA, Xb3 (a := (i : Int)) (by omega), Xbu (a := (i : Int)) (by omega), wkA (e := (i : Int) % (r.Wide / 8) * 8), wkA (e := (i : Int) / (r.Wide / 8)), wkA (e := (i : Int) / (r.Wide / 8) * 8), wkA (e := (i : Int) + 1)]
  rfl
 have eS : Xax r c l (le, tp, ref.Wide, ref.High, ref.Dots) ((i : Int), r.Wide, r.High, dt) = bnd (Xbk (⟨r.Wide, r.High, dt⟩ : Pic) ref le tp c ((i : Int) % (r.Wide / 8) * 8) ((i : Int) / (r.Wide / 8) * 8) (l.getD i Xas)) fun q21 => bnd (Xd9 (⟨r.Wide, r.High, dt⟩ : Pic) ((i : Int) % (r.Wide / 8) * 8) ((i : Int) / (r.Wide / 8) * 8) q21.1) fun q22 => some (.go (((i + 1 : Nat) : Int), q22.Wide, q22.High, q22.Dots)) := by
  unfold Xax
  simp only [Int.toNat_natCast]
  rw [syA, rqA, Xbu (a := r.Wide) (by omega), wkA (e := r.Wide / 8), rqA, rqA, rqA, rqA, Xb3 (a := (i : Int)) (by omega), Xbu (a := (i : Int)) (by omega), Int.mul_comm 8 ((i : Int) % (r.Wide / 8)), wkA (e := (i : Int) / (r.Wide / 8)), Int.mul_comm 8 ((i : Int) / (r.Wide / 8)), wkA (e := (i : Int) % (r.Wide / 8) * 8), wkA (e := (i : Int) / (r.Wide / 8) * 8), wkA (e := (i : Int) + 1)]
  rfl
 refine ⟨fun hq => ?_, fun hq => ?_⟩
 ·
  rw [eI, Xwq SD hq, Xag]; rfl
 ·
  rw [Bool.and_eq_true] at hq
  obtain ⟨d, d1, d2, d3⟩ := Xrz SD hq.1 hq.2 hr
  obtain ⟨p', ep, g1, g2, g3⟩ := Xv4 ok held d3
  refine ⟨(p'.Wide, p'.High, p'.Dots), ?_, ?_, g1, g2, g3⟩
  ·
   rw [eI, d1, Xag, Bool.not_true, Xa7, Ydp d3 (by have := Yeu ok; have hm : maxLen = 9223372036854775807 := rfl; simp only at this ⊢; omega), ep, Xag]
  ·
   rw [eS, d2, Xag, ep, Xag]
theorem Ygk {r : Rect} (hw : Xms r.Wide = true) (hh : Xms r.High = true) : tbI r (r.Wide, r.High, strOfNums (List.replicate (r.Wide * r.High).toNat 128)) := by
 have a := Xj1 hw
 have b := Xj1 hh
 have ar := Xdl (w := r.Wide) (h := r.High) (by omega) (by omega)
 refine ⟨Xxt (by simp only; omega) (by simp only; omega) ?_, rfl, rfl⟩
 simp only
 rw [strOfNums_size, List.length_replicate]; omega
theorem Yfl {ref : Pic} {le tp : Int} {r : Rect} {c : Cond} {l : List Square} (H : Yem ref le tp r c l) (s0 : Int × Int × ByteArray) (h0 : tbI r s0) :
  (Xiq l c = false → loop (Xa3 r c l (le, tp, ref.Wide, ref.High, ref.Dots)) (0, s0) = some (.ret (⟨0, 0, ⟨#[]⟩⟩, false))) ∧
  (Xiq l c = true → ∃ s, loop (Xa3 r c l (le, tp, ref.Wide, ref.High, ref.Dots)) (0, s0) = some (.out s) ∧ loop (Xax r c l (le, tp, ref.Wide, ref.High, ref.Dots)) (0, s0) = some s ∧ tbI r s) := by
 have key : ∀ i : Nat, i ≤ l.length → ∀ s, tbI r s →
  ((∃ j, i ≤ j ∧ j < l.length ∧ (Xoj (l.getD j Xas) && Xk9 (l.getD j Xas) c) = false) → loop (Xa3 r c l (le, tp, ref.Wide, ref.High, ref.Dots)) ((i : Int), s) = some (.ret (⟨0, 0, ⟨#[]⟩⟩, false))) ∧
  ((∀ j, i ≤ j → j < l.length → (Xoj (l.getD j Xas) && Xk9 (l.getD j Xas) c) = true) → ∃ s', loop (Xa3 r c l (le, tp, ref.Wide, ref.High, ref.Dots)) ((i : Int), s) = some (.out s') ∧ loop (Xax r c l (le, tp, ref.Wide, ref.High, ref.Dots)) ((i : Int), s) = some s' ∧ tbI r s') := by
  refine Xhz _ ?_ ?_
  ·
   intro s hs
   refine ⟨fun ⟨j, h1, h2, _⟩ => by omega, fun _ => ⟨s, Xnz ?_, Xnz ?_, hs⟩⟩
   ·
    unfold Xa3; rw [Xaz (by simp)]
   ·
    unfold Xax; rw [Xaz (by simp)]
  ·
   intro i hi ih s hs
   obtain ⟨hno, hyes⟩ := Yd9 H i hi s hs
   cases hq : (Xoj (l.getD i Xas) && Xk9 (l.getD i Xas) c) with
   | false =>
    refine ⟨fun _ => Xnz (hno hq), fun hall => ?_⟩
    have := hall i (Nat.le_refl _) hi
    rw [hq] at this; cases this
   | true =>
    obtain ⟨s', e1, e2, hs'⟩ := hyes hq
    obtain ⟨i1, i2⟩ := ih s' hs'
    refine ⟨fun ⟨j, h1, h2, h3⟩ => lgo e1 (i1 ⟨j, ?_, h2, h3⟩), fun hall => ?_⟩
    ·
     rcases Nat.lt_or_ge i j with h | h
     ·
      exact h
     ·
      have : j = i := by omega
      subst this
      rw [hq] at h3; cases h3
    ·
     obtain ⟨s2, k1, k2, k3⟩ := i2 fun j hj => hall j (by omega)
     exact ⟨s2, lgo e1 k1, lgo e2 k2, k3⟩
 obtain ⟨k1, k2⟩ := key 0 (by omega) s0 h0
 refine ⟨fun hf => k1 ?_, fun ht => k2 fun j _ hj => ?_⟩
 ·
  unfold Xiq at hf
  rw [List.all_eq_false] at hf
  obtain ⟨x, hx, hxf⟩ := hf
  obtain ⟨j, hj, rfl⟩ := List.getElem_of_mem hx
  exact ⟨j, by omega, hj, by rw [Xb8 l j hj]; simpa using hxf⟩
 ·
  unfold Xiq at ht
  rw [List.all_eq_true] at ht
  exact ht _ (by rw [Xb8 l j hj]; exact List.getElem_mem _)
theorem Ye2 {now ref ref' : Pic} {l l' t t' x y : Int} {c : Cond} {q : Square} (h : Yf7 now ref l t x y c q) (h' : Yf7 now ref' l' t' x y c q) (hq : Xoj q = true) (hL : Xk9 q c = true) (hK : c.Key = true) : Xbk now ref l t c x y q = Xbk now ref' l' t' c x y q := by
 have h2 : (q.Kind == 2) = true := by unfold Xk9 at hL; rw [hK] at hL; simpa using hL
 unfold Xbk
 rw [Xai, Xai, Xai, Xai, decide_eq_true h.hl, decide_eq_true h.ht, decide_eq_true h'.hl, decide_eq_true h'.ht, h2]
 simp only [Xa5]
theorem Ye3 {ref ref' : Pic} {le tp le' tp' : Int} {r : Rect} {c : Cond} {l : List Square} (H : Yem ref le tp r c l) (H' : Yem ref' le' tp' r c l) (hK : c.Key = true) (ha : Xiq l c = true) (s0 : Int × Int × ByteArray) (h0 : tbI r s0) :
  loop (Xax r c l (le, tp, ref.Wide, ref.High, ref.Dots)) (0, s0) = loop (Xax r c l (le', tp', ref'.Wide, ref'.High, ref'.Dots)) (0, s0) := by
 have hall : ∀ i, i < l.length → (Xoj (l.getD i Xas) && Xk9 (l.getD i Xas) c) = true := fun i hi => by
  unfold Xiq at ha
  rw [List.all_eq_true] at ha
  exact ha _ (by rw [Xb8 l i hi]; exact List.getElem_mem _)
 refine Ye8 l.length (fun _ s => tbI r s) ?_ ?_ h0
 ·
  intro i s hi hs
  rcases Nat.lt_or_ge i l.length with hlt | hge
  ·
   have hq := hall i hlt
   rw [Bool.and_eq_true] at hq
   obtain ⟨w, h, dt⟩ := s
   obtain ⟨ok, e1, e2⟩ := hs
   simp only at ok e1 e2
   subst e1; subst e2
   have hn := H.hn
   obtain ⟨p1, p2, p3, p4, p5, p6, p7, p8, p9, p10⟩ := Xwm H.hw H.hh i (by omega)
   have hmem : l.getD i Xas ∈ l := by rw [Xb8 l i hlt]; exact List.getElem_mem _
   have held : Xgt (⟨r.Wide, r.High, dt⟩ : Pic) ((i : Int) % (r.Wide / 8) * 8) ((i : Int) / (r.Wide / 8) * 8) = true := by
    unfold Xgt; rw [decide_eq_true_eq]; exact ⟨p7, p8, p9, p10⟩
   have SD : Yf7 (⟨r.Wide, r.High, dt⟩ : Pic) ref le tp ((i : Int) % (r.Wide / 8) * 8) ((i : Int) / (r.Wide / 8) * 8) c (l.getD i Xas) :=
    ⟨ok, by rw [Xb3 p7]; omega, by rw [Xb3 p9]; omega, held, H.hl, H.ht, H.hc, H.hs _ hmem⟩
   have SD' : Yf7 (⟨r.Wide, r.High, dt⟩ : Pic) ref' le' tp' ((i : Int) % (r.Wide / 8) * 8) ((i : Int) / (r.Wide / 8) * 8) c (l.getD i Xas) :=
    ⟨ok, by rw [Xb3 p7]; omega, by rw [Xb3 p9]; omega, held, H'.hl, H'.ht, H'.hc, H'.hs _ hmem⟩
   have l64 : l.length ≤ 64 := by
    have : r.Wide / 8 * (r.High / 8) ≤ 8 * 8 := Int.mul_le_mul (by omega) (by omega) (by omega) (by omega)
    omega
   unfold Xax
   simp only [Int.toNat_natCast]
   refine Yau (fun _ => Xxv fun _ => ?_) fun _ => rfl
   rw [Xbu (a := r.Wide) (by omega), wkA (e := r.Wide / 8), Xb3 (a := (i : Int)) (by omega), Xbu (a := (i : Int)) (by omega), Int.mul_comm 8 ((i : Int) % (r.Wide / 8)), wkA (e := (i : Int) / (r.Wide / 8)), Int.mul_comm 8 ((i : Int) / (r.Wide / 8)), wkA (e := (i : Int) % (r.Wide / 8) * 8), wkA (e := (i : Int) / (r.Wide / 8) * 8)]
   refine Xxv fun _ => Xxv fun _ => Xxv fun _ => Xxv fun _ => Yge ?_ fun _ _ => rfl
   exact Ye2 SD SD' hq.1 hq.2 hK
  ·
   unfold Xax
   rw [Xaz (by simp only; omega), Xaz (by simp only; omega)]
 ·
  intro i s v' hi hs he
  rcases Nat.lt_or_ge i l.length with hlt | hge
  ·
   obtain ⟨s', _, e2, hs'⟩ := (Yd9 H' i hlt s hs).2 (hall i hlt)
   rw [e2] at he
   injection he with he
   injection he with he
   subst he
   exact ⟨rfl, by omega, hs'⟩
  ·
   unfold Xax at he
   rw [Xaz (by simp only; omega)] at he
   cases he
theorem Xwr (ref : Pic) (r : Rect) (c : Cond) (cf : Bool) (l : List Square) (hll : l.length ≤ 1048576) (hs : ∀ q ∈ l, q.Levels.length ≤ 1048576) : ∃ x, Xfr ref r c cf l = some x ∧ Xf3 ref r c cf l = some x ∧ (x.2 = true → tbI r (x.1.Wide, x.1.High, x.1.Dots)) := by
 unfold Xfr Xf3
 rw [Xlr, Xag, Xk8, Xag]
 cases hw : Xms r.Wide with
 | false => exact ⟨_, rfl, rfl, fun h => by cases h⟩
 | true =>
  rw [Xa5, Xa5, Xlr, Xag, Xk8, Xag]
  cases hh : Xms r.High with
  | false => exact ⟨_, rfl, rfl, fun h => by cases h⟩
  | true =>
   rw [Xa5, Xa5, Xar, Xag, Xai, Xag]
   by_cases hL : 0 ≤ r.Left ∧ r.Left ≤ 256
   ·
    rw [decide_eq_true hL, Xa5, Xa5, Xar, Xag, Xai, Xag]
    by_cases hT : 0 ≤ r.Top ∧ r.Top ≤ 256
    ·
     rw [decide_eq_true hT, Xa5, Xa5, Xgp, Xag, Xx9 l c hll, Xag]
     cases hc : Xi1 c with
     | false => exact ⟨_, rfl, rfl, fun h => by cases h⟩
     | true =>
      have sw := Xj1 hw
      have sh := Xj1 hh
      have mb : r.Wide / 8 * (r.High / 8) ≤ 8 * 8 := Int.mul_le_mul (by omega) (by omega) (by omega) (by omega)
      have m0 : 1 * 1 ≤ r.Wide / 8 * (r.High / 8) := Int.mul_le_mul (by omega) (by omega) (by omega) (by omega)
      rw [Xa5, rqA, rqA, Bool.true_and, Xbu (a := r.Wide) (by omega), Xbu (a := r.High) (by omega), wkA (e := r.Wide / 8), wkA (e := r.High / 8), wkA (e := r.Wide / 8 * (r.High / 8))]
      by_cases hn : (l.length : Int) = r.Wide / 8 * (r.High / 8)
      ·
       have hne : ((l.length : Int) != r.Wide / 8 * (r.High / 8)) = false := by simpa using hn
       rw [decide_eq_true (show 1 ≤ l.length ∧ l.length ≤ 64 by omega), Bool.true_and, hne]
       -- the picture before
       have ha : (sel c.Key (some false) (bnd (Xdm ref) fun q8 => sel q8 (bnd (Xcm ref r) fun q9 => some (!q9)) (some true))) = some (!c.Key && !(Xcw ref && Xhg ref r)) := by
        cases c.Key with
        | true => rfl
        | false =>
         rw [Xa7, Xeb, Xag]
         cases hp : Xcw ref with
         | false => rfl
         | true => rw [Xa5, Xnq hp, Xag]; rfl
       have hb : (sel c.Key (some false) (bnd (Xbh ref r.Left r.Top r.Wide r.High) fun q8 => some (!q8))) = some (!c.Key && !(Xcw ref && Xhg ref r)) := by
        cases c.Key with
        | true => rfl
        | false => rw [Xa7, Xjh, Xag]; rfl
       have G := Ygk hw hh
       have gI := Xy7 r.Wide r.High (by omega) (by omega)
       have gS := Xz0 r.Wide r.High (by omega) (by omega)
       rw [ha, hb, gI, gS]
       simp only [Xag, Xa7]
       cases hbad : (!c.Key && !(Xcw ref && Xhg ref r)) with
       | true => cases Xiq l c <;> exact ⟨_, rfl, rfl, fun h => by cases h⟩
       | false =>
        have hr : c.Key = false → Xcw ref = true ∧ Xhg ref r = true := by
         intro hk
         rw [hk] at hbad
         simp only [Bool.not_false, Bool.true_and, Bool.not_eq_false'] at hbad
         rwa [Bool.and_eq_true] at hbad
        have vI : ∃ (rI : Pic) (lI tI : Int), (sel cf (sel (!c.Key) (bnd (Xhv ref r) fun q11 => some ((0 : Int), (0 : Int), q11.1.Wide, q11.1.High, q11.1.Dots)) (some (0, 0, ref.Wide, ref.High, ref.Dots))) (some (r.Left, r.Top, ref.Wide, ref.High, ref.Dots))) = some (lI, tI, rI.Wide, rI.High, rI.Dots) ∧ Yem rI lI tI r c l ∧
          ∃ (rS : Pic) (lS tS : Int), (bnd (sel c.Key (some false) (some cf)) fun v10 => sel v10 (bnd (Xhx ref r) fun q11 => some ((0 : Int), (0 : Int), q11.1.Wide, q11.1.High, q11.1.Dots)) (some (r.Left, r.Top, ref.Wide, ref.High, ref.Dots))) = some (lS, tS, rS.Wide, rS.High, rS.Dots) ∧ Yem rS lS tS r c l ∧ (c.Key = false → rI = rS ∧ lI = lS ∧ tI = tS) := by
         cases hK : c.Key with
         | true =>
          have TT : ∀ le tp : Int, (0 ≤ le ∧ le ≤ 256) → (0 ≤ tp ∧ tp ≤ 256) → Yem ref le tp r c l := fun le tp h1 h2 => ⟨hw, hh, h1, h2, hc, hn, hs, fun h => by rw [hK] at h; cases h⟩
          cases cf with
          | true => exact ⟨ref, 0, 0, rfl, TT 0 0 (by omega) (by omega), ref, r.Left, r.Top, rfl, TT _ _ hL hT, fun h => by cases h⟩
          | false => exact ⟨ref, r.Left, r.Top, rfl, TT _ _ hL hT, ref, r.Left, r.Top, rfl, TT _ _ hL hT, fun h => by cases h⟩
         | false =>
          obtain ⟨hp, ho⟩ := hr hK
          cases cf with
          | true =>
           rw [Xa5, Bool.not_false, Xa5, Xw6 hp ho, Xag, Xa7, Xag, Xa5, Xx5 hp ho, Xag]
           have TT : Yem (Yhc ref r) 0 0 r c l := ⟨hw, hh, by omega, by omega, hc, hn, hs, fun _ => Ygh hp ho⟩
           exact ⟨Yhc ref r, 0, 0, rfl, TT, Yhc ref r, 0, 0, rfl, TT, fun _ => ⟨rfl, rfl, rfl⟩⟩
          | false =>
           have TT : Yem ref r.Left r.Top r c l := ⟨hw, hh, hL, hT, hc, hn, hs, fun _ => hp⟩
           exact ⟨ref, r.Left, r.Top, rfl, TT, ref, r.Left, r.Top, rfl, TT, fun _ => ⟨rfl, rfl, rfl⟩⟩
        obtain ⟨rI, lI, tI, eI, HI, rS, lS, tS, eS, HS, hk⟩ := vI
        rw [Xa7, eI, eS]
        simp only [Xag, Xa7]
        obtain ⟨n1, n2⟩ := Yfl HI _ G
        cases hall : Xiq l c with
        | false =>
         rw [n1 hall, Xag]
         exact ⟨_, rfl, rfl, fun h => by cases h⟩
        | true =>
         obtain ⟨s, e1, e2, e3⟩ := n2 hall
         have e4 : loop (Xax r c l (lS, tS, rS.Wide, rS.High, rS.Dots)) (0, r.Wide, r.High, strOfNums (List.replicate (r.Wide * r.High).toNat 128)) = some s := by
          cases hK : c.Key with
          | true => rw [Ye3 HS HI hK hall _ G]; exact e2
          | false =>
           obtain ⟨q1, q2, q3⟩ := hk hK
           subst q1; subst q2; subst q3
           exact e2
         rw [e1, Xag, Xa5, Xag, Xa7, e4, Xag]
         exact ⟨_, rfl, rfl, fun _ => e3⟩
      ·
       have hne : ((l.length : Int) != r.Wide / 8 * (r.High / 8)) = true := by simpa using hn
       rw [hne, Xag, Xa5]
       refine ⟨_, rfl, ?_, fun h => by cases h⟩
       cases (decide (1 ≤ l.length ∧ l.length ≤ 64) && Xiq l c) <;> rfl
    ·
     rw [decide_eq_false hT]; exact ⟨_, rfl, rfl, fun h => by cases h⟩
   ·
    rw [decide_eq_false hL]; exact ⟨_, rfl, rfl, fun h => by cases h⟩
theorem FnExactTileBack {p0 : Pic} {p1 : Rect} {p2 : Cond} {p3 : Bool} {p4 : List Square} (h0 : Yhq p0) (h1 : Yf4 p1) (h2 : Yf3 p2) (h4 : p4.length ≤ maxLen ∧ ∀ y ∈ p4, Ybo y) : Xcx p0 p1 p2 p3 p4 = some true := by
 have hm : maxLen = 9223372036854775807 := rfl
 obtain ⟨hl, hs⟩ := h4
 unfold Xcx
 have d0 : p0.Dots.size ≤ maxLen := h0.2.2
 rw [Xxm p0 1048576 d0 (by omega) (by omega), Xag]
 by_cases hz : (1048576 : Int) < p0.Dots.size
 ·
  rw [if_pos hz, syA]
 rw [if_neg hz, snA]
 obtain ⟨t, e, a1, a2, a3⟩ := Xo8 p4 (1048576 - p0.Dots.size) hl (fun s h => (hs s h).2.2.2.2.1) (by omega) (by omega)
 rw [e, Xag]
 by_cases ht : t < 0
 ·
  rw [Xhe ht]
 rw [Xaz ht]
 obtain ⟨l1, l2⟩ := a3 (by omega)
 obtain ⟨x, ei, es, _⟩ := Xwr p0 p1 p2 p3 p4 l1 l2
 simp only [Xpb p4 l1 l2, Xjc, Xh5, Xh3, Xag, es, ei, Xs3, Xa5, beq_self_eq_true, Bool.not_true, Xa7, Xmo p4 (by omega) (fun s h => by have := l2 s h; omega)]
def Yio (t : Nat → Int) : Nat → Int
 | 0 => 0
 | k + 1 => Yio t k + t k
def eT (f : Nat → Int) (u : Nat) : Int := Yio (fun k => Xey (u : Int) (k : Int) * f k) 8
def eS (X : Nat → Nat → Int) (u v : Nat) : Int := eT (fun i => eT (X i) v) u
end Go.Proofs.Ytlebkepfhdjnmac.A.Pure
