/- The pure statement of the law FnExactSquareFor: over numbers, texts and lists alone, what the law computes is true. Conditions: the sizes of what a machine holds. -/
import Derived.Test.YtlebkepfhdjnmadGreatDFnExactSquareFor
namespace Go.Proofs.YtlebkepfhdjnmadGreat.A.Pure
open Go Go.Proofs Go.Proofs.YtlebkepfhdjnmadGreatAL Go.RowKit
set_option linter.unusedVariables false
set_option linter.unusedSimpArgs false
set_option maxHeartbeats 1000000
theorem Xae {α β : Type} (a : α) (f : α → Option β) : bnd (some a) f = f a := rfl
theorem Xly {α β : Type} {x : Option α} {a : α} {f : α → Option β} (h : x = some a) : bnd x f = f a := by subst h; rfl
theorem Xa5 {β : Type} (x y : β) : sel true x y = x := rfl
theorem Xaz {β : Type} (x y : β) : sel false x y = y := rfl
theorem Yla {β : Type} (b : Bool) (x y : β) : sel (!b) x y = sel b y x := by cases b <;> rfl
theorem Xg3 (b x : Bool) : sel b (some x) (some false) = some (b && x) := by cases b <;> rfl
theorem Yjx (b x : Bool) : sel b (some true) (some x) = some (b || x) := by cases b <;> rfl
theorem Yjw (b x : Bool) : sel b (some x) (some true) = some (!b || x) := by cases b <;> rfl
theorem Ylb {β : Type} (b : Bool) (x : β) : sel b x x = x := by cases b <;> rfl
theorem Yho {β : Type} (b : Bool) (x y : β) : sel b (some x) (some y) = some (sel b x y) := by cases b <;> rfl
theorem Ydo {β : Type} (b : Bool) (x y : β) : sel b x y = if b = true then x else y := by cases b <;> rfl
theorem Ygn {β : Type} (p : Prop) [Decidable p] (x y : β) : sel (decide p) x y = if p then x else y := by
 by_cases h : p <;> simp [h, sel]
theorem Xhy {β : Type} {b : Bool} {x y : β} (h : b = true) : sel b x y = x := by subst h; rfl
theorem Xd0 {β : Type} {b : Bool} {x y : β} (h : b = false) : sel b x y = y := by subst h; rfl
theorem Xck {β : Type} {p : Prop} [Decidable p] {x y : β} (h : p) : sel (decide p) x y = x := by simp [h, sel]
theorem Xaw {β : Type} {p : Prop} [Decidable p] {x y : β} (h : ¬ p) : sel (decide p) x y = y := by simp [h, sel]
theorem Xb4 {β : Type} {c : Prop} [Decidable c] {k : Option β} (h : c) : req c k = k := if_pos h
theorem wk {e : Int} (h1 : -9223372036854775808 ≤ e) (h2 : e ≤ 9223372036854775807) : Xaa .i64 e = e := by
 show wrap64 e = e
 unfold wrap64; omega
theorem rqA {β : Type} {c : Prop} [Decidable c] {k : Option β} (h : c := by omega) : req c k = k := Xb4 h
theorem syA {β : Type} {c : Prop} [Decidable c] {x y : β} (h : c := by omega) : sel (decide c) x y = x := Xck h
theorem snA {β : Type} {c : Prop} [Decidable c] {x y : β} (h : ¬ c := by omega) : sel (decide c) x y = y := Xaw h
theorem wkA {e : Int} (h1 : -9223372036854775808 ≤ e := by omega) (h2 : e ≤ 9223372036854775807 := by omega) : Xaa .i64 e = e := wk h1 h2
theorem w8 {e : Int} (h1 : 0 ≤ e) (h2 : e ≤ 255) : Xaa .u8 e = e := by
 show IntKind.wrap .u8 e = e
 simp [IntKind.wrap, IntKind.signed, IntKind.bits]; omega
theorem Xjg {a b : Int} (h : 0 ≤ a) : Int.tmod a b = a % b := Int.tmod_eq_emod_of_nonneg h
theorem Xcq {a b : Int} (h : 0 ≤ a) : Int.tdiv a b = a / b := Int.tdiv_eq_ediv_of_nonneg h
theorem Xkj {P : Nat → Prop} (n : Nat) (h0 : P n) (hs : ∀ i, i < n → P (i + 1) → P i) : ∀ i, i ≤ n → P i := by
 intro i hi
 obtain ⟨k, rfl⟩ : ∃ k, n = i + k := ⟨n - i, by omega⟩
 clear hi
 induction k generalizing i with
 | zero => exact h0
 | succ k ih =>
  refine hs i (by omega) ?_
  exact ih (i + 1) (by rw [show i + 1 + k = i + (k + 1) by omega]; exact h0) (fun j hj => hs j (by omega))
theorem lgo {V O : Type} {f : V → Option (Lp V O)} {x y : V} {r : Option O} (h : f x = some (.go y)) (k : loop f y = r) : loop f x = r := by rw [Xyg h]; exact k
theorem Xm1 {V O : Type} {f : V → Option (Lp V O)} {x : V} {o : O} (h : f x = some (.done o)) : loop f x = some o := Xmb h
theorem Yde {V O : Type} {f : V → Option (Lp V O)} (I : V → Prop) (m : V → Nat) (Q : V → O → Prop) (h : ∀ v, I v → (∃ o, f v = some (.done o) ∧ Q v o) ∨ ∃ v', f v = some (.go v') ∧ I v' ∧ m v' < m v ∧ ∀ o, Q v' o → Q v o) : ∀ v, I v → ∃ o, loop f v = some o ∧ Q v o := by
 intro v
 generalize hn : m v = n
 induction n using Nat.strongRecOn generalizing v with
 | _ n ih =>
  intro hv
  rcases h v hv with ⟨o, h1, h2⟩ | ⟨v', h1, h2, h3, h4⟩
  ·
   exact ⟨o, Xmb h1, h2⟩
  ·
   obtain ⟨o, h5, h6⟩ := ih (m v') (by omega) v' rfl h2
   exact ⟨o, by rw [Xyg h1]; exact h5, h4 o h6⟩
theorem Xe2 {α : Type} (l : List α) (i : Nat) (h : i < l.length) (d : α) : l.getD i d = l[i] := by
 simp [List.getD_eq_getElem?_getD, List.getElem?_eq_getElem h]
theorem Xaq (a b c : Int) : Xap a b c = some (decide (b ≤ a ∧ a ≤ c)) := by
 unfold Xap
 by_cases h : b ≤ a <;> simp [bnd, sel, h]
theorem Xai (a b c : Int) : Xar a b c = some (decide (b ≤ a ∧ a ≤ c)) := by
 unfold Xar
 by_cases h : b ≤ a <;> simp [bnd, sel, h]
theorem Ydp {α : Type} (a : List α) (x y : α) (b : List α) : (a ++ x :: b).set a.length y = a ++ y :: b := by
 induction a with
 | nil => rfl
 | cons z a ih => simp only [List.cons_append, List.length_cons, List.set_cons_succ, ih]
theorem Ycq {α : Type} (a : List α) (x d : α) (b : List α) : (a ++ x :: b).getD a.length d = x := by
 induction a with
 | nil => rfl
 | cons z a ih => simp
theorem Yi5 {α β : Type} (l : List α) (g : α → β) (d : α) (e : β) {f : (Int × List β) → Option (Lp (Int × List β) (List β))}
  (h : ∀ (i : Nat) (o : List β), i < l.length → o.length = l.length → f ((i : Int), o) = some (.go (((i + 1 : Nat) : Int), o.set i (g (l.getD i d))))) (h0 : ∀ o, f ((l.length : Int), o) = some (.done o)) : loop f (0, List.replicate l.length e) = some (l.map g) := by
 have key : ∀ (r a : List α), l = a ++ r → loop f ((a.length : Int), a.map g ++ List.replicate r.length e) = some (l.map g) := by
  intro r
  induction r with
  | nil =>
   intro a ha
   rw [List.append_nil] at ha
   subst ha
   rw [Xmb (h0 _)]; simp
  | cons x r ih =>
   intro a ha
   have hlen : a.length < l.length := by rw [ha]; simp
   rw [Xyg (h a.length _ hlen (by rw [ha]; simp))]
   have e1 : l.getD a.length d = x := by rw [ha]; exact Ycq a x d r
   have e2 : (a.map g ++ List.replicate (x :: r).length e).set a.length (g x) = (a ++ [x]).map g ++ List.replicate r.length e := by
    have := Ydp (a.map g) e (g x) (List.replicate r.length e)
    rw [List.length_map] at this
    rw [List.length_cons, List.replicate_succ, this]
    simp
   rw [e1, e2]
   have := ih (a ++ [x]) (by rw [ha]; simp)
   rw [List.length_append, List.length_singleton] at this
   exact this
 exact key l [] rfl
theorem Xr5 {f : Int → Option (Lp Int (Ou Unit Bool))} (n : Nat) (h : ∀ i : Nat, i < n → f i = some (.go ((i + 1 : Nat) : Int))) (h0 : f n = some (.done (.out ()))) : loop f 0 = some (.out ()) :=
 Xkj (P := fun i => loop f (i : Int) = some (.out ())) n (Xmb h0) (fun i hi ih => by rw [Xyg (h i hi)]; exact ih) 0 (by omega)
def Xca (n a b : Int) : Int := if b < a ∨ n < a then a else if n > b then b else n
theorem Xhj (n a b : Int) : Xc5 n a b = some (Xca n a b) := by
 unfold Xc5 Xca
 congr 1
 repeat' split
 all_goals omega
theorem Xkd {n a b : Int} (h : a ≤ b) : a ≤ Xca n a b ∧ Xca n a b ≤ b := by
 unfold Xca
 repeat' split
 all_goals omega
theorem Xd1 (n a b : Int) : Xdb n a b = some (Xca n a b) := by
 unfold Xdb Xca
 rw [Yjx, Xae]
 by_cases h : b < a ∨ n < a
 ·
  rw [if_pos h, Xhy (by simpa using h)]
 ·
  rw [if_neg h, Xd0 (by simp; omega), Ygn]; split <;> rfl
def Xe0 (p : Pic) : Bool := decide (1 ≤ p.Wide ∧ p.Wide ≤ 256) && (decide (1 ≤ p.High ∧ p.High ≤ 256) && ((p.Dots.size : Int) == p.Wide * p.High))
theorem Xs3 {w h : Int} (h1 : 1 ≤ w ∧ w ≤ 256) (h2 : 1 ≤ h ∧ h ≤ 256) : 1 ≤ w * h ∧ w * h ≤ 65536 := by
 have a : w * 1 ≤ w * h := Int.mul_le_mul_of_nonneg_left h2.1 (by omega)
 have b : w * h ≤ 256 * h := Int.mul_le_mul_of_nonneg_right h1.2 (by omega)
 omega
theorem Xek (p : Pic) : Xev p = some (Xe0 p) := by
 unfold Xev Xe0
 simp only [Xai, Xae, Xg3]
 by_cases h1 : 1 ≤ p.Wide ∧ p.Wide ≤ 256
 ·
  by_cases h2 : 1 ≤ p.High ∧ p.High ≤ 256
  ·
   have := Xs3 h1 h2
   rw [wkA]
  ·
   rw [decide_eq_false h2, Bool.false_and, Bool.false_and]
 ·
  rw [decide_eq_false h1, Bool.false_and, Bool.false_and]
theorem Xcn (p : Pic) : Xdu p = some (Xe0 p) := by
 unfold Xdu Xe0
 simp only [Xaq, Xae, Xg3]
 by_cases h1 : 1 ≤ p.Wide ∧ p.Wide ≤ 256
 ·
  by_cases h2 : 1 ≤ p.High ∧ p.High ≤ 256
  ·
   have := Xs3 h1 h2
   rw [wkA]
  ·
   rw [decide_eq_false h2, Bool.false_and, Bool.false_and]
 ·
  rw [decide_eq_false h1, Bool.false_and, Bool.false_and]
theorem Xjw (l : List Int) (hl : l.length ≤ 9223372036854775806) : Xef l l = some true := by
 unfold Xef
 rw [Xd0 (by simp), Xr5 l.length (f := Xgm l l) (by
  intro i hi
  unfold Xgm
  rw [syA, rqA, rqA, Xd0 (by simp), wkA]
  rfl) (by unfold Xgm; rw [snA])]
 rfl
def Xvq (k : Int) : List Int → List Int
 | [] => []
 | _ :: r => k :: Xvq (k + 1) r
theorem Ye7 : ∀ (l : List Int) (k : Int), (Xvq k l).length = l.length
 | [], _ => rfl
 | _ :: r, k => by rw [Xvq, List.length_cons, List.length_cons, Ye7 r]
theorem Xj1 (l : List Int) (k : Int) (h0 : 0 < k) (h1 : k ≤ 1000000000) (hl : l.length ≤ 100000000) : Xei l k = some (k + l.length, Xvq k l) := by
 unfold Xei
 have key : ∀ (r a : List Int) (j : Int), 0 < j → j + r.length ≤ 2000000000 → a.length + r.length ≤ 100000000 → loop Xep (j, (a.length : Int), a ++ r) = some (j + r.length, a ++ Xvq j r) := by
  intro r
  induction r with
  | nil =>
   intro a j hj1 hj2 hl
   refine Xm1 ?_
   unfold Xep
   simp only [List.append_nil]
   rw [snA]
   simp [Xvq]
  | cons p r ih =>
   intro a j hj1 hj2 hl
   simp only [List.length_cons] at hj2 hl ⊢
   have hcl : ∀ x : Int, (a ++ x :: r).length = a.length + (r.length + 1) := fun x => by simp
   refine lgo (y := (j + 1, ((a ++ [j]).length : Int), (a ++ [j]) ++ r)) ?_ ?_
   ·
    unfold Xep
    simp only [Int.toNat_natCast, Ydp, hcl]
    rw [syA, rqA, rqA, wkA (e := j + 1), wkA]
    simp
   ·
    rw [ih _ (j + 1) (by omega) (by omega) (by simp; omega)]
    simp only [Xvq, List.append_assoc, List.singleton_append]
    congr 2
    omega
 have := key l [] k h0 (by omega) (by simp; omega)
 simp only [List.length_nil, List.nil_append] at this
 rw [show ((k, 0, l) : Int × Int × List Int) = (k, ((0 : Nat) : Int), l) from rfl, this]
 rfl
theorem Xjz (l : List Int) (k : Int) (h0 : 0 < k) (h1 : k ≤ 1000000000) (hl : l.length ≤ 100000000) : Xeh (Xvq k l) k = some (k + l.length) := by
 unfold Xeh
 have key : ∀ (r a : List Int) (j : Int), 0 < j → j + r.length ≤ 2000000000 → a.length + r.length ≤ 100000000 → loop (Xeo (a ++ Xvq j r)) (j, (a.length : Int)) = some (.out (j + r.length)) := by
  intro r
  induction r with
  | nil =>
   intro a j hj1 hj2 hl
   refine Xm1 ?_
   unfold Xeo
   simp only [Xvq, List.append_nil]
   rw [snA]
   simp
  | cons p r ih =>
   intro a j hj1 hj2 hl
   simp only [List.length_cons] at hj2 hl ⊢
   have hcl : ∀ (x : Int) (r : List Int), (a ++ x :: r).length = a.length + (r.length + 1) := fun x r => by simp
   refine lgo (y := (j + 1, ((a ++ [j]).length : Int))) ?_ ?_
   ·
    unfold Xeo
    simp only [Xvq, Int.toNat_natCast, Ycq, hcl, Ye7]
    rw [syA, rqA, Xd0 (by simp), wkA (e := j + 1), wkA]
    simp
   ·
    have := ih (a ++ [j]) (j + 1) (by omega) (by omega) (by simp; omega)
    simp only [Xvq]
    rw [List.append_assoc, List.singleton_append] at this
    rw [this]
    congr 2
    omega
 have := key l [] k h0 (by omega) (by simp; omega)
 simp only [List.length_nil, List.nil_append] at this
 rw [show ((k, 0) : Int × Int) = (k, ((0 : Nat) : Int)) from rfl, this]
 rfl
theorem Yb7 (a b : List Int) : strOfNums a ++ strOfNums b = strOfNums (a ++ b) := by
 unfold strOfNums
 rw [List.map_append]
 apply ByteArray.ext
 simp
theorem Ymy : (⟨#[]⟩ : ByteArray) = strOfNums [] := rfl
theorem Yn6 (y : Int) : IntKind.wrap .i64 (BitVec.ofInt (IntKind.bits .i64) y &&& BitVec.ofInt (IntKind.bits .i64) 1).toNat = y % 2 := by
 have h : (BitVec.ofInt 64 y &&& BitVec.ofInt 64 1).toNat = (y % 2).toNat := by
  rw [BitVec.toNat_and]
  have e1 : (BitVec.ofInt 64 1).toNat = 1 := by decide
  rw [e1, Nat.and_one_is_mod, BitVec.toNat_ofInt]
  omega
 show IntKind.wrap .i64 ((BitVec.ofInt 64 y &&& BitVec.ofInt 64 1).toNat : Int) = _
 rw [h, ← Xsy, wkA]
 omega
def Yly : Nat → Int → List Int
 | 0, _ => []
 | w + 1, n => Yly w (n / 2) ++ [48 + n % 2]
theorem Yii (w : Nat) : ∀ (k : Nat) (n : Int) (s : List Int), 0 ≤ n → n ≤ 9223372036854775807 → k + s.length ≤ 100000 → loop Xhs (n, (k : Int) - 1, List.replicate k 0 ++ s) = some (Yly k n ++ s) := by
 intro k
 induction k with
 | zero =>
  intro n s h0 h1 hl
  refine Xm1 ?_
  unfold Xhs
  simp only
  rw [snA]
  simp [Yly]
 | succ k ih =>
  intro n s h0 h1 hl
  have e1 : List.replicate (k + 1) (0 : Int) ++ s = List.replicate k 0 ++ 0 :: s := by rw [List.replicate_succ', List.append_assoc]; rfl
  have e2 := Ydp (List.replicate k (0 : Int)) 0 (48 + n % 2) s
  rw [List.length_replicate] at e2
  refine lgo (y := (n / 2, (k : Int) - 1, List.replicate k 0 ++ (48 + n % 2) :: s)) ?_ ?_
  ·
   unfold Xhs
   have e3 : (((k + 1 : Nat) : Int) - 1).toNat = k := by omega
   simp only [e1, e3]
   rw [syA, Xb4 (by simp; omega), Xb4 (by simp), Xb4 (by decide), Yn6, wkA (e := 48 + n % 2), w8 (by omega) (by omega), e2, wkA]
   rw [show ((k + 1 : Nat) : Int) - 1 - 1 = (k : Int) - 1 by omega]
   rfl
  ·
   rw [ih (n / 2) ((48 + n % 2) :: s) (by omega) (by omega) (by simp; omega), Yly, List.append_assoc]; rfl
theorem Ycy (n : Int) (w : Nat) (h0 : 0 ≤ n) (h1 : n ≤ 9223372036854775807) (hw : w ≤ 1000) : Xl5 n (w : Int) = some (strOfNums (Yly w n)) := by
 unfold Xl5
 rw [rqA, wkA, Int.toNat_natCast]
 have := Yii w w n [] h0 h1 (by simp; omega)
 rw [List.append_nil, List.append_nil] at this
 rw [this, Xae]
def Xwx (m : Nat) : Nat := if h : m = 0 then 0 else Xwx (m / 2) + 1
termination_by m
decreasing_by omega
def Yke (m : Nat) : List Int := if h : m = 0 then [] else Yke (m / 2) ++ [48 + ((m % 2 : Nat) : Int)]
termination_by m
decreasing_by omega
theorem Ygw (m : Nat) : (Yke m).length = Xwx m := by
 induction m using Nat.strongRecOn with
 | _ m ih =>
  rw [Yke, Xwx]
  by_cases h : m = 0
  ·
   rw [dif_pos h, dif_pos h]; rfl
  ·
   rw [dif_neg h, dif_neg h, List.length_append, ih (m / 2) (by omega)]; rfl
theorem Yf4 {m j : Nat} (h : m < 2 ^ j) : Xwx m ≤ j := by
 induction j generalizing m with
 | zero => rw [Xwx, dif_pos (by simp at h; omega)]; omega
 | succ j ih =>
  rw [Xwx]
  split
  ·
   omega
  ·
   have := ih (m := m / 2) (by rw [Nat.pow_succ] at h; omega)
   omega
theorem Ycn {m : Nat} (h : 0 < m) : 1 ≤ Xwx m := by rw [Xwx, dif_neg (by omega)]; omega
theorem Ykt (z m : Nat) : Yly (Xwx m + z) m = List.replicate z 48 ++ Yke m := by
 induction m using Nat.strongRecOn with
 | _ m ih =>
  rw [Yke, Xwx]
  by_cases h : m = 0
  ·
   rw [dif_pos h, dif_pos h, h, List.append_nil, Nat.zero_add]
   clear ih h
   induction z with
   | zero => rfl
   | succ z iz => rw [Yly, show ((0 : Nat) : Int) / 2 = ((0 : Nat) : Int) from rfl, iz, List.replicate_succ']; rfl
  ·
   rw [dif_neg h, dif_neg h, show Xwx (m / 2) + 1 + z = Xwx (m / 2) + z + 1 by omega, Yly, show (m : Int) / 2 = ((m / 2 : Nat) : Int) by omega, ih (m / 2) (by omega), List.append_assoc, show (m : Int) % 2 = ((m % 2 : Nat) : Int) by omega]
def ueL (n : Nat) : List Int := List.replicate (Xwx (n + 1) - 1) 48 ++ Yke (n + 1)
theorem Yj9 (n : Nat) (h : n ≤ 1000000) : (ueL n).length ≤ 39 ∧ 1 ≤ (ueL n).length := by
 unfold ueL
 rw [List.length_append, List.length_replicate, Ygw]
 have := Yf4 (m := n + 1) (j := 20) (by omega)
 have := Ycn (m := n + 1) (by omega)
 omega
theorem Xzz : ∀ (m : Nat) (k : Int), 0 ≤ k → k ≤ 1000 → m ≤ 9223372036854775807 → loop Xb1 ((m : Int), k) = some (k + Xwx m) := by
 have main : ∀ (j m : Nat) (k : Int), m < 2 ^ j → j ≤ 63 → 0 ≤ k → k + j ≤ 2000 → loop Xb1 ((m : Int), k) = some (k + Xwx m) := by
  intro j
  induction j with
  | zero =>
   intro m k hm _ _ _
   have : m = 0 := by simp at hm; omega
   subst this
   refine Xm1 ?_
   unfold Xb1
   simp only
   rw [snA, Xwx, dif_pos rfl]; simp
  | succ j ih =>
   intro m k hm hj h0 h1
   by_cases h : m = 0
   ·
    subst h
    refine Xm1 ?_
    unfold Xb1
    simp only
    rw [snA, Xwx, dif_pos rfl]; simp
   ·
    refine lgo (y := (((m / 2 : Nat) : Int), k + 1)) ?_ ?_
    ·
     unfold Xb1
     simp only
     rw [syA, Xb4 (by decide), wkA]
     show some (Lp.go ((m : Int) / 2, k + 1)) = _
     congr 3
    ·
     rw [ih (m / 2) (k + 1) (by rw [Nat.pow_succ] at hm; omega) (by omega) (by omega) (by omega), Xwx.eq_def m, dif_neg h]
     congr 1; omega
 intro m k h0 h1 hm
 exact main 63 m k (by omega) (by omega) h0 (by omega)
theorem Ybu (n : Nat) (h : n ≤ 1000000) : Xtr (n : Int) = some (strOfNums (ueL n)) := by
 unfold Xtr Xja
 rw [wkA (e := (n : Int) + 1)]
 have := Xzz (n + 1) 0 (by omega) (by omega) (by omega)
 rw [show ((n + 1 : Nat) : Int) = (n : Int) + 1 by omega, Int.zero_add] at this
 rw [this, Xae, Xae]
 have h1 := Yf4 (m := n + 1) (j := 20) (by omega)
 have h2 := Ycn (m := n + 1) (by omega)
 rw [wkA (e := 2 * (Xwx (n + 1) : Int)), wkA, show 2 * (Xwx (n + 1) : Int) - 1 = ((Xwx (n + 1) + (Xwx (n + 1) - 1) : Nat) : Int) by omega, Ycy _ _ (by omega) (by omega) (by omega), Xae,
  show (n : Int) + 1 = ((n + 1 : Nat) : Int) by omega, Ykt]
 rfl
theorem Xzi (n : Nat) (x : Int) (h : n ≤ 1000000000) : Xjr (n : Int) x = some (strOfNums (List.replicate n x)) := by
 unfold Xjr
 rw [rqA, Int.toNat_natCast]
 have key : ∀ (k a : Nat), k + a = n → loop (Xfo (n : Int) x) ((a : Int), List.replicate a x ++ List.replicate k 0) = some (List.replicate n x) := by
  intro k
  induction k with
  | zero =>
   intro a ha
   refine Xm1 ?_
   unfold Xfo
   simp only
   rw [snA]
   simp; omega
  | succ k ih =>
   intro a ha
   have e2 := Ydp (List.replicate a x) 0 x (List.replicate k 0)
   rw [List.length_replicate] at e2
   refine lgo (y := (((a + 1 : Nat) : Int), List.replicate (a + 1) x ++ List.replicate k 0)) ?_ (ih (a + 1) (by omega))
   unfold Xfo
   simp only [List.replicate_succ (n := k), Int.toNat_natCast]
   rw [syA, Xb4 (by simp; omega), Xb4 (by simp), e2, wkA, List.replicate_succ' (n := a), List.append_assoc]
   rfl
 have := key n 0 rfl
 rw [List.replicate_zero, List.nil_append] at this
 exact Xly this
theorem Xm6 (n : Nat) (h : n ≤ 1000000) : Xi3 (n : Int) = some (strOfNums (ueL n)) := by
 have main : ∀ (j m : Nat) (s : List Int), m < 2 ^ j → j ≤ 63 → s.length + j ≤ 1000 → loop Xf8 ((m : Int), strOfNums s) = some (strOfNums (Yke m ++ s)) := by
  intro j
  induction j with
  | zero =>
   intro m s hm _ _
   have : m = 0 := by simp at hm; omega
   subst this
   refine Xm1 ?_
   unfold Xf8
   simp only
   rw [snA, Yke, dif_pos rfl]; rfl
  | succ j ih =>
   intro m s hm hj hl
   by_cases h : m = 0
   ·
    subst h
    refine Xm1 ?_
    unfold Xf8
    simp only
    rw [snA, Yke, dif_pos rfl]; rfl
   ·
    have hlt : (m : Int) < 2 ^ (j + 1) := by exact_mod_cast hm
    have hle : (2 : Int) ^ (j + 1) ≤ 2 ^ 63 := by
     have := Nat.pow_le_pow_right (n := 2) (by omega) hj
     exact_mod_cast this
    have hbd : (m : Int) < 9223372036854775808 := Int.lt_of_lt_of_le hlt (by simpa using hle)
    refine lgo (y := (((m / 2 : Nat) : Int), strOfNums ((48 + ((m % 2 : Nat) : Int)) :: s))) ?_ ?_
    ·
     unfold Xf8
     simp only
     rw [syA, Xb4 (by decide), Xjg (by omega), Xcq (by omega), wkA (e := 48 + (m : Int) % 2), w8 (by omega) (by omega), Xb4 (by simp only [strOfNums_size, List.length_singleton]; omega), Xb4 (by decide), wkA, Yb7]
     congr 3
    ·
     rw [ih (m / 2) _ (by rw [Nat.pow_succ] at hm; omega) (by omega) (by simp; omega)]
     conv => rhs; rw [Yke, dif_neg h]
     rw [List.append_assoc]; rfl
 unfold Xi3
 have h1 := Yf4 (m := n + 1) (j := 20) (by omega)
 have h2 := Ycn (m := n + 1) (by omega)
 rw [wkA (e := (n : Int) + 1), Ymy, show (n : Int) + 1 = ((n + 1 : Nat) : Int) by omega, main 63 (n + 1) [] (by omega) (by omega) (by simp), Xae, List.append_nil, strOfNums_size, Ygw, wkA, show (Xwx (n + 1) : Int) - 1 = ((Xwx (n + 1) - 1 : Nat) : Int) by omega, Xzi _ _ (by omega), Xae,
  Xb4 (by simp only [strOfNums_size, List.length_replicate]; omega), Yb7]
 rfl
theorem Yal (l : List Int) (hl : l.length ≤ 1048576) : Xfc l = some l := by
 unfold Xfc
 rw [rqA, Int.toNat_natCast]
 have := Yi5 l (fun p : Int => p) 0 (0 : Int) (f := Xgn l) (by
  intro i o hi ho
  unfold Xgn
  simp only
  rw [syA, rqA, rqA, rqA, wkA]
  rfl) (by
  intro o; unfold Xgn; simp only; rw [snA])
 rw [this, Xae, List.map_id']
theorem Xr0 (p : Pic) (m : Int) (hl : p.Dots.size ≤ maxLen) (h0 : 0 ≤ m) (h1 : m ≤ 1048576) : Xkh p m = some (if m < p.Dots.size then -1 else m - p.Dots.size) := by
 have hm : maxLen = 9223372036854775807 := rfl
 unfold Xkh
 rw [wkA, Ygn]
 by_cases h : m < p.Dots.size
 ·
  rw [if_pos h, if_pos (by omega)]
 ·
  rw [if_neg h, if_neg (by omega)]
def Yen (n : Int) : Nat := if n > 0 then (2 * n - 1).toNat else (-2 * n).toNat
theorem Xz3 (n : Int) (h : -500000 ≤ n ∧ n ≤ 500000) : Xkl n = some ((Yen n : Int), true) := by
 unfold Xkl Yen
 rw [Xaq, Xae, Yla, Xck h, Ygn, wkA (e := 2 * n), wkA, wkA]
 split
 ·
  rw [Int.toNat_of_nonneg (by omega)]
 ·
  rw [Int.toNat_of_nonneg (by omega)]
theorem Yaz (n : Int) (h : -500000 ≤ n ∧ n ≤ 500000) : Xkw n = some ((Yen n : Int), true) := by
 unfold Xkw Yen
 rw [Xai, Xae, Yla, Xck h, Ygn, wkA (e := 2 * n), wkA, wkA]
 split
 ·
  rw [Int.toNat_of_nonneg (by omega)]
 ·
  rw [Int.toNat_of_nonneg (by omega)]
theorem Yco (n : Int) (h : -500000 ≤ n ∧ n ≤ 500000) : Yen n ≤ 1000000 := by unfold Yen; split <;> omega
def seL (n : Int) : List Int := ueL (Yen n)
theorem Ydz (n : Int) (h : -500000 ≤ n ∧ n ≤ 500000) : Xmi n = some (strOfNums (seL n)) := by
 unfold Xmi
 rw [Yaz n h, Xae, Xm6 _ (Yco n h), Xae]; rfl
theorem Ycv (n : Int) (h : -500000 ≤ n ∧ n ≤ 500000) : Xl0 n = some (strOfNums (seL n), true) := by
 have := Yco n h
 unfold Xl0
 rw [Xz3 n h, Xae, Yla, Xa5]
 unfold Xkf
 rw [Xaq, Xae, Yla, syA, Ybu _ this, Xae, Xae]; rfl
def Yml (x : Int) : Bool := decide (-5000 ≤ x ∧ x ≤ 5000)
def Yao (l : List Int) : Bool := decide (l.length = 64) && l.all Yml
theorem Xwu (p : Int → Bool) (l : List Int) (f : Int → Option (Lp Int (Ou Unit Bool))) (h : ∀ i : Nat, i < l.length → f (i : Int) = sel (!(p (l.getD i 0))) (some (.done (.ret false))) (some (.go ((i + 1 : Nat) : Int)))) (h0 : f (l.length : Int) = some (.done (.out ()))) :
  loop f 0 = some (if l.all p = true then .out () else .ret false) := by
 have key : ∀ (r a : List Int), l = a ++ r → loop f (a.length : Int) = some (if r.all p = true then .out () else .ret false) := by
  intro r
  induction r with
  | nil => intro a ha; rw [List.append_nil] at ha; rw [← ha, Xmb h0]; rfl
  | cons x r ih =>
   intro a ha
   have hlen : a.length < l.length := by rw [ha]; simp
   have hx : l.getD a.length 0 = x := by rw [ha]; exact Ycq a x _ r
   have hs := h a.length hlen
   rw [hx] at hs
   cases e : p x with
   | true =>
    rw [e] at hs
    have := ih (a ++ [x]) (by rw [ha]; simp)
    rw [List.length_append, List.length_singleton] at this
    rw [Xyg hs, this, List.all_cons, e, Bool.true_and]
   | false => rw [e] at hs; rw [Xmb hs, List.all_cons, e, Bool.false_and]; rfl
 exact key l [] rfl
theorem Ybh (l : List Int) : Xbd l 64 5000 = some (Yao l) := by
 unfold Xbd Yao
 by_cases h : l.length = 64
 ·
  rw [Xd0 (by simp only [bne_eq_false_iff_eq]; omega), Xwu Yml l (Xcr l 64 5000) (by
   intro i hi
   unfold Xcr
   rw [syA, rqA, wkA (e := 0 - 5000), Xai, Xae, wkA, Int.toNat_natCast]
   rfl) (by unfold Xcr; rw [snA]), Xae, decide_eq_true h, Bool.true_and]
  cases l.all Yml <;> rfl
 ·
  rw [Xhy (by simp only [bne_iff_ne, ne_eq]; omega), decide_eq_false h, Bool.false_and]
theorem Xhp (l : List Int) (n lo hi : Int) (hl : l.length ≤ 9223372036854775806) : Xa7 l n lo hi = some (l.all (fun x => decide (lo ≤ x ∧ x ≤ hi)) && ((l.length : Int) == n)) := by
 unfold Xa7
 rw [Xwu (fun x => decide (lo ≤ x ∧ x ≤ hi)) l (Xhq l lo hi) (by
   intro i hi
   unfold Xhq
   rw [syA, rqA, Xaq, Xae, wkA, Int.toNat_natCast]
   rfl) (by unfold Xhq; rw [snA]), Xae]
 cases l.all (fun x => decide (lo ≤ x ∧ x ≤ hi)) <;> rfl
theorem Xl2 (l : List Int) (hl : l.length ≤ 9223372036854775806) : Xdh l = some (Yao l) := by
 unfold Xdh Yao
 rw [Xhp l _ _ _ hl, Xae]
 show some (l.all Yml && ((l.length : Int) == 64)) = _
 have : ((l.length : Int) == 64) = decide (l.length = 64) := by rw [Bool.eq_iff_iff]; simp only [beq_iff_eq, decide_eq_true_eq]; omega
 rw [this, Bool.and_comm]
theorem Yia {l : List Int} (h : Yao l = true) : l.length = 64 ∧ l.all Yml = true := by
 unfold Yao at h; rw [Bool.and_eq_true, decide_eq_true_eq] at h; exact h
def Xla (c : Cond) : Bool := decide (0 ≤ c.Qp ∧ c.Qp ≤ 40) && !(c.Large && c.Exact)
theorem Xdj (c : Cond) : Xfh c = some (Xla c) := by
 unfold Xfh Xla
 rw [Xai, Xae, Yjw, Xg3, Xae]
 cases c.Large <;> cases c.Exact <;> rfl
theorem Xgf (c : Cond) : Xe3 c = some (Xla c) := by
 unfold Xe3 Xla
 rw [Xaq, Xae, Yjw, Xg3, Xae]
 cases c.Large <;> cases c.Exact <;> rfl
def Yb5 (s : Xba) : Bool :=
 if s.Kind = 0 then decide (s.Mode = 0 ∧ s.Dx = 0 ∧ s.Dy = 0 ∧ s.Levels.length = 0)
 else if s.Kind = 1 then decide (s.Mode = 0) && (decide (-16 ≤ s.Dx ∧ s.Dx ≤ 16) && (decide (-16 ≤ s.Dy ∧ s.Dy ≤ 16) && Yao s.Levels))
 else if s.Kind = 2 then decide (0 ≤ s.Mode ∧ s.Mode ≤ 3) && (decide (s.Dx = 0) && (decide (s.Dy = 0) && Yao s.Levels))
 else false
theorem Ycg (a b : Int) : (a == b) = decide (a = b) := by rw [Bool.eq_iff_iff]; simp
theorem Xwb (s : Xba) : Xh7 s = some (Yb5 s) := by
 unfold Xh7 Yb5
 simp only [Xai, Ybh, Xae, Xg3, Ycg]
 simp only [Ygn]
 by_cases h0 : s.Kind = 0
 ·
  rw [if_pos h0, if_pos h0]; congr 1; rw [Bool.eq_iff_iff]; simp
 ·
  rw [if_neg h0, if_neg h0]
  by_cases h1 : s.Kind = 1
  ·
   rw [if_pos h1, if_pos h1]
  ·
   rw [if_neg h1, if_neg h1]
   by_cases h2 : s.Kind = 2
   ·
    rw [decide_eq_true h2, Bool.true_and, if_pos h2]
   ·
    rw [decide_eq_false h2, Bool.false_and, if_neg h2]
theorem Xvk (s : Xba) (hl : s.Levels.length ≤ 9223372036854775806) : Xho s = some (Yb5 s) := by
 unfold Xho Yb5
 simp only [Xaq, Xl2 _ hl, Xae, Xg3, Ycg]
 simp only [Ygn]
 by_cases h0 : s.Kind = 0
 ·
  rw [if_pos h0, if_pos h0]; congr 1; rw [Bool.eq_iff_iff]; simp
 ·
  rw [if_neg h0, if_neg h0]
  by_cases h1 : s.Kind = 1
  ·
   rw [if_pos h1, if_pos h1]
  ·
   rw [if_neg h1, if_neg h1]
   by_cases h2 : s.Kind = 2
   ·
    rw [decide_eq_true h2, Bool.true_and, if_pos h2]
   ·
    rw [decide_eq_false h2, Bool.false_and, if_neg h2]
def Yd0 (s : Xba) (c : Cond) : Bool := !c.Key || s.Kind == 2
theorem Yfq {s : Xba} (h : Yb5 s = true) : 0 ≤ s.Kind ∧ s.Kind ≤ 2 := by
 unfold Yb5 at h
 repeat' split at h
 all_goals first | omega | simp at h
theorem Yhp {s : Xba} (h : Yb5 s = true) (h1 : s.Kind = 1) : (-16 ≤ s.Dx ∧ s.Dx ≤ 16) ∧ (-16 ≤ s.Dy ∧ s.Dy ≤ 16) ∧ Yao s.Levels = true := by
 unfold Yb5 at h
 rw [if_neg (by omega), if_pos h1] at h
 simp only [Bool.and_eq_true, decide_eq_true_eq] at h
 exact ⟨h.2.1, h.2.2.1, h.2.2.2⟩
theorem Ylg {s : Xba} (h : Yb5 s = true) (h1 : s.Kind = 2) : (0 ≤ s.Mode ∧ s.Mode ≤ 3) ∧ Yao s.Levels = true := by
 unfold Yb5 at h
 rw [if_neg (by omega), if_neg (by omega), if_pos h1] at h
 simp only [Bool.and_eq_true, decide_eq_true_eq] at h
 exact ⟨h.1, h.2.2.2⟩
theorem Yci (b : ByteArray) (i : Int) : 0 ≤ Ykq b i ∧ Ykq b i ≤ 255 := by
 unfold Ykq
 split
 ·
  rename_i h
  have := (b[i.toNat]'h).toNat_lt
  omega
 ·
  omega
theorem Xcj {p : Pic} (h : Xe0 p = true) : (1 ≤ p.Wide ∧ p.Wide ≤ 256) ∧ (1 ≤ p.High ∧ p.High ≤ 256) ∧ (p.Dots.size : Int) = p.Wide * p.High := by
 unfold Xe0 at h
 simp only [Bool.and_eq_true, decide_eq_true_eq, beq_iff_eq] at h
 exact ⟨h.1, h.2.1, h.2.2⟩
def Ycl (p : Pic) (x y : Int) : Int := Ykq p.Dots (Xca y 0 (p.High - 1) * p.Wide + Xca x 0 (p.Wide - 1))
theorem Xmr (p : Pic) (x y : Int) : 0 ≤ Ycl p x y ∧ Ycl p x y ≤ 255 := Yci _ _
theorem Yei {p : Pic} (ok : Xe0 p = true) (x y : Int) : 0 ≤ Xca y 0 (p.High - 1) * p.Wide + Xca x 0 (p.Wide - 1) ∧ Xca y 0 (p.High - 1) * p.Wide + Xca x 0 (p.Wide - 1) < p.Dots.size ∧ 0 ≤ Xca y 0 (p.High - 1) * p.Wide ∧ Xca y 0 (p.High - 1) * p.Wide ≤ 65536 := by
 obtain ⟨h1, h2, h3⟩ := Xcj ok
 have b1 := Xkd (n := y) (a := 0) (b := p.High - 1) (by omega)
 have b2 := Xkd (n := x) (a := 0) (b := p.Wide - 1) (by omega)
 have m1 := Int.mul_nonneg b1.1 (show 0 ≤ p.Wide by omega)
 have m2 := Int.mul_le_mul_of_nonneg_right b1.2 (show 0 ≤ p.Wide by omega)
 have m3 : (p.High - 1) * p.Wide = p.Wide * p.High - p.Wide := by rw [Int.sub_mul, Int.one_mul, Int.mul_comm]
 have m4 := (Xs3 h1 h2).2
 omega
theorem Xx3 {p : Pic} (ok : Xe0 p = true) (x y : Int) : Xc9 p x y = some (Ycl p x y) := by
 obtain ⟨h1, h2, h3⟩ := Xcj ok
 unfold Xc9 Ycl
 rw [Xhj, Xae, Xhj, Xae, wkA (e := p.High - 1), wkA (e := p.Wide - 1)]
 obtain ⟨p1, p2, p3, p4⟩ := Yei ok x y
 have b2 := Xkd (n := x) (a := 0) (b := p.Wide - 1) (by omega)
 have br := Yci p.Dots (Xca y 0 (p.High - 1) * p.Wide + Xca x 0 (p.Wide - 1))
 rw [wkA (e := Xca y 0 (p.High - 1) * p.Wide), wkA (e := Xca y 0 (p.High - 1) * p.Wide + Xca x 0 (p.Wide - 1)), Xb4 ⟨p1, p2⟩, wkA]
theorem Xh3 {p : Pic} (ok : Xe0 p = true) (x y : Int) : Xd2 p x y = some (Ycl p x y) := by
 obtain ⟨h1, h2, h3⟩ := Xcj ok
 unfold Xd2 Ycl
 rw [Xek, Xae, ok, Bool.not_true, Xaz, Xd1, Xae, Xd1, Xae, wkA (e := p.High - 1), wkA (e := p.Wide - 1)]
 obtain ⟨p1, p2, p3, p4⟩ := Yei ok x y
 have b2 := Xkd (n := x) (a := 0) (b := p.Wide - 1) (by omega)
 have br := Yci p.Dots (Xca y 0 (p.High - 1) * p.Wide + Xca x 0 (p.Wide - 1))
 rw [wkA (e := Xca y 0 (p.High - 1) * p.Wide), wkA (e := Xca y 0 (p.High - 1) * p.Wide + Xca x 0 (p.Wide - 1)), Xb4 ⟨p1, p2⟩, wkA]
def Yh2 (p : Pic) (x y : Int) (i : Nat) : Int := Ycl p (x + ((i % 8 : Nat) : Int)) (y + ((i / 8 : Nat) : Int))
def Xqs (p : Pic) (x y : Int) (n : Nat) : List Int := (List.range n).map (Yh2 p x y)
theorem Yee (p : Pic) (x y : Int) (n : Nat) : Xqs p x y (n + 1) = Xqs p x y n ++ [Yh2 p x y n] := by simp [Xqs, List.range_succ]
theorem Xps (p : Pic) (x y : Int) (n : Nat) : (Xqs p x y n).length = n := by simp [Xqs]
def Yf2 (x : Int) : Bool := decide (0 ≤ x ∧ x ≤ 255)
def Xbg (l : List Int) : Bool := decide (l.length = 64) && l.all Yf2
theorem Xbh {l : List Int} (h : Xbg l = true) : l.length = 64 ∧ ∀ i : Nat, i < 64 → 0 ≤ l.getD i 0 ∧ l.getD i 0 ≤ 255 := by
 simp only [Xbg, Bool.and_eq_true, decide_eq_true_eq] at h
 refine ⟨h.1, fun i hi => ?_⟩
 have := List.all_eq_true.1 h.2 (l.getD i 0) (by rw [Xe2 l i (by omega)]; exact List.getElem_mem _)
 simpa [Yf2] using this
theorem Xjh (p : Pic) (x y : Int) : Xbg (Xqs p x y 64) = true := by
 simp only [Xbg, Xps, decide_true, Bool.true_and, List.all_eq_true]
 intro z hz
 obtain ⟨i, _, rfl⟩ := List.mem_map.1 hz
 simp only [Yf2, decide_eq_true_eq]
 exact Xmr _ _ _
theorem Xh1 {p : Pic} (ok : Xe0 p = true) (x y : Int) (hx : -1000 ≤ x ∧ x ≤ 1000) (hy : -1000 ≤ y ∧ y ≤ 1000) : Xd9 p x y = some (Xqs p x y 64) := by
 have hm : maxLen = 9223372036854775807 := rfl
 unfold Xd9
 rw [Xek, Xae, ok, Xa5, Xai, Xae, syA, Xai, Xae, Xae, decide_eq_true (by omega), Bool.not_true, Xaz]
 have key : ∀ i : Nat, i ≤ 64 → loop (Xfg p x y) ((i : Int), Xqs p x y i) = some (Xqs p x y 64) := by
  refine Xkj _ ?_ ?_
  ·
   exact Xm1 (by unfold Xfg; rw [Xaw (by simp)])
  ·
   intro i hi ih
   refine lgo (y := (((i + 1 : Nat) : Int), Xqs p x y (i + 1))) ?_ ih
   unfold Xfg
   simp only
   rw [syA, rqA, rqA, Xjg (by omega), Xcq (by omega), wkA (e := (i : Int) / 8), wkA (e := x + (i : Int) % 8), wkA (e := y + (i : Int) / 8), Xh3 ok, Xae, Xb4 (by rw [Xps]; simp only [List.length_singleton]; omega), wkA (e := (i : Int) + 1)]
   have e2 : Ycl p (x + (i : Int) % 8) (y + (i : Int) / 8) = Yh2 p x y i := by unfold Yh2; congr 1
   rw [e2, ← Yee]
   rfl
 have := key 0 (by omega)
 exact (Xly this).trans rfl
theorem Xfy {p : Pic} (ok : Xe0 p = true) (x y : Int) (hx : -1000 ≤ x ∧ x ≤ 1000) (hy : -1000 ≤ y ∧ y ≤ 1000) : Xbi p x y = some (Xqs p x y 64) := by
 have hm : maxLen = 9223372036854775807 := rfl
 unfold Xbi
 rw [rqA]
 have key : ∀ r : Nat, r ≤ 8 → loop (Xc7 p x y) ((r : Int), Xqs p x y (8 * r)) = some (Xqs p x y 64) := by
  refine Xkj _ ?_ ?_
  ·
   exact Xm1 (by unfold Xc7; rw [Xaw (by simp)])
  ·
   intro r hr ih
   refine lgo (y := (((r + 1 : Nat) : Int), Xqs p x y (8 * (r + 1)))) ?_ ih
   unfold Xc7
   simp only
   have inner : ∀ c : Nat, c ≤ 8 → loop (Xc8 p x y ((r : Int), Xqs p x y (8 * r))) ((c : Int), Xqs p x y (8 * r + c)) = some (Xqs p x y (8 * (r + 1))) := by
    refine Xkj _ ?_ ?_
    ·
     exact Xm1 (by unfold Xc8; rw [Xaw (by simp)]; rfl)
    ·
     intro c hc ih2
     refine lgo (y := (((c + 1 : Nat) : Int), Xqs p x y (8 * r + (c + 1)))) ?_ ih2
     unfold Xc8
     simp only
     rw [syA, wkA (e := x + (c : Int)), wkA (e := y + (r : Int)), Xx3 ok, Xae, Xb4 (by rw [Xps]; simp only [List.length_singleton]; omega), wkA (e := (c : Int) + 1)]
     have e2 : Ycl p (x + (c : Int)) (y + (r : Int)) = Yh2 p x y (8 * r + c) := by
      unfold Yh2
      rw [show (8 * r + c) % 8 = c by omega, show (8 * r + c) / 8 = r by omega]
     rw [e2, ← Yee]
     rfl
   have i0 := inner 0 (by omega)
   rw [syA]
   refine (Xly i0).trans ?_
   rw [wkA (e := (r : Int) + 1)]
   rfl
 have := key 0 (by omega)
 exact (Xly this).trans rfl
def Xuo (x : Int) : Int := if x < 0 then -x else x
def Xkk (a b : List Int) : Nat → Int
 | 0 => 0
 | n + 1 => Xkk a b n + Xuo (a.getD n 0 - b.getD n 0)
theorem Xg7 {a b : List Int} (ha : Xbg a = true) (hb : Xbg b = true) : ∀ n : Nat, n ≤ 64 → 0 ≤ Xkk a b n ∧ Xkk a b n ≤ 255 * n
 | 0, _ => by simp [Xkk]
 | n + 1, h => by
  have ih := Xg7 ha hb n (by omega)
  have p := (Xbh ha).2 n (by omega)
  have q := (Xbh hb).2 n (by omega)
  simp only [Xkk, Xuo]
  split <;> omega
theorem Xmx {a b : List Int} (ha : Xbg a = true) (hb : Xbg b = true) : Xlc a b = some (Xkk a b 64) := by
 unfold Xlc
 have la := (Xbh ha).1
 have lb := (Xbh hb).1
 have key : ∀ i : Nat, i ≤ 64 → loop (Xko a b) (Xkk a b i, (i : Int)) = some (Xkk a b 64) := by
  refine Xkj _ ?_ ?_
  ·
   exact Xm1 (by unfold Xko; rw [Xaw (by simp only; omega)])
  ·
   intro i hi ih
   refine lgo (y := (Xkk a b (i + 1), ((i + 1 : Nat) : Int))) ?_ ih
   have p := (Xbh ha).2 i hi
   have q := (Xbh hb).2 i hi
   have g := Xg7 ha hb i (by omega)
   unfold Xko Xjk
   simp only [Int.toNat_natCast]
   rw [syA, rqA, rqA, wkA (e := a.getD i 0 - b.getD i 0), wkA (e := 0 - (a.getD i 0 - b.getD i 0)), Xae]
   have e : (if 0 - (a.getD i 0 - b.getD i 0) > a.getD i 0 - b.getD i 0 then 0 - (a.getD i 0 - b.getD i 0) else a.getD i 0 - b.getD i 0) = Xuo (a.getD i 0 - b.getD i 0) := by
    unfold Xuo; split <;> split <;> omega
   have ab : 0 ≤ Xuo (a.getD i 0 - b.getD i 0) ∧ Xuo (a.getD i 0 - b.getD i 0) ≤ 255 := by unfold Xuo; split <;> omega
   rw [e, wkA (e := Xkk a b i + Xuo (a.getD i 0 - b.getD i 0)), wkA (e := (i : Int) + 1)]
   rfl
 exact (Xly (key 0 (by omega))).trans rfl
theorem Xdx (l : List Int) (hl : l.length ≤ 9223372036854775806) : Xa7 l 64 0 255 = some (Xbg l) := by
 rw [Xhp l _ _ _ hl]
 have : ((l.length : Int) == 64) = decide (l.length = 64) := by rw [Bool.eq_iff_iff]; simp only [beq_iff_eq, decide_eq_true_eq]; omega
 rw [this, Bool.and_comm]
 rfl
def Yis (d : Int) : Int := ((seL d).length : Int)
theorem Xi9 (d : Int) (h : -500000 ≤ d ∧ d ≤ 500000) : Xim d = some (Yis d) := by
 unfold Xim Yis
 rw [Ycv d h, Xae, strOfNums_size]
theorem Xox (d : Int) (h : -500000 ≤ d ∧ d ≤ 500000) : 1 ≤ Yis d ∧ Yis d ≤ 39 := by
 unfold Yis seL
 have := Yj9 (Yen d) (Yco d h)
 omega
def Xcv (p : Pic) (x y : Int) : Bool := decide (0 ≤ x ∧ x ≤ p.Wide - 8 ∧ 0 ≤ y ∧ y ≤ p.High - 8)
theorem Xuq {p : Pic} (ok : Xe0 p = true) (x y : Int) : Xgi p ⟨x, y, 8, 8⟩ = some (Xcv p x y) := by
 obtain ⟨k1, k2, k3⟩ := Xcj ok
 unfold Xgi Xcv
 simp only
 rw [Xaq, Xae, Xaq, Xae, wkA (e := p.Wide - 8), wkA (e := p.High - 8), Xaq, Xae, Xaq, Xae]
 simp only [Xg3, Xae]
 congr 1
 rw [Bool.eq_iff_iff]
 simp only [Bool.and_eq_true, decide_eq_true_eq]
 omega
theorem Xju {p : Pic} (ok : Xe0 p = true) (x y : Int) (hx : x.tmod 8 = 0) (hy : y.tmod 8 = 0) (h : Xcv p x y = true) : Xa6 p x y = some true := by
 obtain ⟨k1, k2, k3⟩ := Xcj ok
 unfold Xcv at h
 rw [decide_eq_true_eq] at h
 unfold Xa6
 rw [rqA, hx, rqA, hy, wkA (e := p.Wide - 8), wkA (e := p.High - 8), Xaq, Xae, Xaq, Xae, decide_eq_true (by omega), decide_eq_true (by omega)]
 rfl
def Xjd (p : Pic) (w : List Int) (x y dx dy : Int) : Int := Xkk w (Xqs p (x + dx) (y + dy) 64) 64 + Yis dx + Yis dy
def BmI (p : Pic) (w : List Int) (x y r : Int) (past : Bool) (b : Int × Int × Int) : Prop :=
 (b = (0, 0, -1) ∧ past = false) ∨
 ((-r ≤ b.1 ∧ b.1 ≤ r) ∧ (-r ≤ b.2.1 ∧ b.2.1 ≤ r) ∧ Xcv p (x + b.1) (y + b.2.1) = true ∧ b.2.2 = Xjd p w x y b.1 b.2.1 ∧ (past = true → b.2.2 ≤ Xjd p w x y 0 0))
theorem Xpc {p : Pic} {w : List Int} (hw : Xbg w = true) (x y dx dy : Int) (hx : -100 ≤ dx ∧ dx ≤ 100) (hy : -100 ≤ dy ∧ dy ≤ 100) : 2 ≤ Xjd p w x y dx dy ∧ Xjd p w x y dx dy ≤ 20000 := by
 have g := Xg7 hw (Xjh p (x + dx) (y + dy)) 64 (by omega)
 have a := Xox dx (by omega)
 have b := Xox dy (by omega)
 unfold Xjd; omega
theorem Ymc {p : Pic} {w : List Int} {x y r : Int} (ok : Xe0 p = true) (hw : Xbg w = true) (hr : 0 ≤ r ∧ r ≤ 4) (h0 : Xcv p x y = true) (s : Int × Int × Int × Int) (hs : -r ≤ s.2.2.2 ∧ s.2.2.2 ≤ r) (v : Int × Int × Int × Int) (hv : -r ≤ v.2.2.2 ∧ v.2.2.2 ≤ r)
  (past : Bool) (hi : BmI p w x y r past (v.1, v.2.1, v.2.2.1)) (hp : past = true ↔ (s.2.2.2 > 0 ∨ (s.2.2.2 = 0 ∧ v.2.2.2 > 0))) :
  ∃ b, Xb0 p w x y r s v = some (.go (b.1, b.2.1, b.2.2, v.2.2.2 + 1)) ∧ BmI p w x y r (decide (s.2.2.2 > 0 ∨ (s.2.2.2 = 0 ∧ v.2.2.2 + 1 > 0))) b := by
 obtain ⟨k1, k2, k3⟩ := Xcj ok
 have h0' := h0
 unfold Xcv at h0'
 rw [decide_eq_true_eq] at h0'
 unfold Xb0
 rw [Xck hv.2, wkA (e := x + v.2.2.2), wkA (e := y + s.2.2.2), wkA (e := v.2.2.2 + 1), Xuq ok, Xae]
 cases hh : Xcv p (x + v.2.2.2) (y + s.2.2.2) with
 | false =>
  refine ⟨(v.1, v.2.1, v.2.2.1), rfl, ?_⟩
  have ne : ¬ (s.2.2.2 = 0 ∧ v.2.2.2 = 0) := by
   intro ⟨e1, e2⟩
   rw [e1, e2, Int.add_zero, Int.add_zero, h0] at hh
   cases hh
  rcases hi with ⟨h1, h2⟩ | ⟨h1, h2, h3, h4, h5⟩
  ·
   refine .inl ⟨h1, ?_⟩
   rw [decide_eq_false_iff_not]
   intro h
   have := hp.2 (by omega)
   rw [h2] at this; cases this
  ·
   refine .inr ⟨h1, h2, h3, h4, fun h => h5 (hp.2 ?_)⟩
   rw [decide_eq_true_eq] at h
   omega
 | true =>
  have hh' := hh
  unfold Xcv at hh'
  rw [decide_eq_true_eq] at hh'
  have hb := Xjh p (x + v.2.2.2) (y + s.2.2.2)
  have g := Xg7 hw hb 64 (by omega)
  have z1 := Xox v.2.2.2 (by omega)
  have z2 := Xox s.2.2.2 (by omega)
  rw [Bool.not_true, Xaz, Xfy ok _ _ (by omega) (by omega), Xae, Xmx hw hb, Xae, Xi9 _ (by omega), Xae, Xi9 _ (by omega), Xae, wkA (e := Xkk w (Xqs p (x + v.2.2.2) (y + s.2.2.2) 64) 64 + Yis v.2.2.2), wkA, Yjx, Xae]
  have mc : Xkk w (Xqs p (x + v.2.2.2) (y + s.2.2.2) 64) 64 + Yis v.2.2.2 + Yis s.2.2.2 = Xjd p w x y v.2.2.2 s.2.2.2 := rfl
  rw [mc]
  have m1 := Xpc (p := p) (w := w) hw x y v.2.2.2 s.2.2.2 (by omega) (by omega)
  cases hc : (decide (v.2.2.1 < 0) || decide (Xjd p w x y v.2.2.2 s.2.2.2 < v.2.2.1)) with
  | true =>
   refine ⟨(v.2.2.2, s.2.2.2, Xjd p w x y v.2.2.2 s.2.2.2), rfl, .inr ⟨hv, hs, hh, rfl, fun h => ?_⟩⟩
   rw [decide_eq_true_eq] at h
   by_cases e0 : s.2.2.2 = 0 ∧ v.2.2.2 = 0
   ·
    rw [e0.1, e0.2]; exact Int.le_refl _
   ·
    have hpast := hp.2 (by omega)
    rcases hi with ⟨h1, h2⟩ | ⟨h1, h2, h3, h4, h5⟩
    ·
     rw [h2] at hpast; cases hpast
    ·
     have h5' := h5 hpast
     simp only at h4 h5' ⊢
     have n1 := Xpc (p := p) (w := w) hw x y v.1 v.2.1 (by simp only at h1; omega) (by simp only at h2; omega)
     simp only [Bool.or_eq_true, decide_eq_true_eq] at hc
     omega
  | false =>
   refine ⟨(v.1, v.2.1, v.2.2.1), rfl, ?_⟩
   simp only [Bool.or_eq_false_iff, decide_eq_false_iff_not] at hc
   rcases hi with ⟨h1, h2⟩ | ⟨h1, h2, h3, h4, h5⟩
   ·
    simp only [Prod.mk.injEq] at h1
    omega
   ·
    refine .inr ⟨h1, h2, h3, h4, fun h => ?_⟩
    rw [decide_eq_true_eq] at h
    by_cases e0 : s.2.2.2 = 0 ∧ v.2.2.2 = 0
    ·
     have := hc.2
     rw [e0.1, e0.2] at this
     simp only; omega
    ·
     exact h5 (hp.2 (by omega))
theorem Xu3 {p : Pic} {w : List Int} {x y r : Int} (ok : Xe0 p = true) (hw : Xbg w = true) (hr : 0 ≤ r ∧ r ≤ 4) (hx : x.tmod 8 = 0) (hy : y.tmod 8 = 0) (h0 : Xcv p x y = true) :
  ∃ b, Xcm p w x y r = some b ∧ (-r ≤ b.1 ∧ b.1 ≤ r) ∧ (-r ≤ b.2.1 ∧ b.2.1 ≤ r) ∧ Xcv p (x + b.1) (y + b.2.1) = true ∧ b.2.2 = Xjd p w x y b.1 b.2.1 ∧ b.2.2 ≤ Xjd p w x y 0 0 := by
 have hwl := (Xbh hw).1
 unfold Xcm
 rw [Xcn, Xae, ok, Xa5, Xdx w (by omega), Xae, hw, Xa5, Xaq, Xae, decide_eq_true (by omega), Xa5, Xju ok x y hx hy h0, Xae, Bool.not_true, Xae, Xaz, wkA (e := 0 - r)]
 obtain ⟨o, h, ho⟩ := Yde (f := Xdr p w x y r) (fun s => -r ≤ s.2.2.2 ∧ s.2.2.2 ≤ r + 1 ∧ BmI p w x y r (decide (s.2.2.2 > 0)) (s.1, s.2.1, s.2.2.1)) (fun s => (r + 1 - s.2.2.2).toNat) (fun _ b => BmI p w x y r true b) (by
  intro s ⟨g1, g2, g3⟩
  unfold Xdr
  by_cases hi : s.2.2.2 ≤ r
  ·
   rw [Xck hi, wkA (e := s.2.2.2 + 1), wkA (e := 0 - r)]
   obtain ⟨o, h, ho⟩ := Yde (f := Xb0 p w x y r s) (fun v => -r ≤ v.2.2.2 ∧ v.2.2.2 ≤ r + 1 ∧ BmI p w x y r (decide (s.2.2.2 > 0 ∨ (s.2.2.2 = 0 ∧ v.2.2.2 > 0))) (v.1, v.2.1, v.2.2.1)) (fun v => (r + 1 - v.2.2.2).toNat) (fun _ b => BmI p w x y r (decide (s.2.2.2 + 1 > 0)) b) (by
    intro v ⟨f1, f2, f3⟩
    by_cases hv : v.2.2.2 ≤ r
    ·
     obtain ⟨b, e, hb⟩ := Ymc ok hw hr h0 s ⟨g1, hi⟩ v ⟨f1, hv⟩ _ f3 (by rw [decide_eq_true_eq])
     exact .inr ⟨_, e, ⟨by simp only; omega, by simp only; omega, hb⟩, by simp only; omega, fun _ h => h⟩
    ·
     refine .inl ⟨(v.1, v.2.1, v.2.2.1), ?_, ?_⟩
     ·
      unfold Xb0; rw [Xaw hv]
     ·
      have : decide (s.2.2.2 > 0 ∨ (s.2.2.2 = 0 ∧ v.2.2.2 > 0)) = decide (s.2.2.2 + 1 > 0) := by
       rw [decide_eq_decide]; omega
      rw [this] at f3
      exact f3) (s.1, s.2.1, s.2.2.1, 0 - r) ⟨by simp only; omega, by simp only; omega, by
    have : decide (s.2.2.2 > 0 ∨ (s.2.2.2 = 0 ∧ 0 - r > 0)) = decide (s.2.2.2 > 0) := by rw [decide_eq_decide]; omega
    simp only
    rw [this]; exact g3⟩
   rw [h, Xae]
   exact .inr ⟨_, rfl, ⟨by simp only; omega, by simp only; omega, ho⟩, by simp only; omega, fun _ h => h⟩
  ·
   rw [Xaw hi]
   refine .inl ⟨_, rfl, ?_⟩
   rw [decide_eq_true (by omega)] at g3
   exact g3) (0, 0, -1, 0 - r) ⟨by simp only; omega, by simp only; omega, .inl ⟨rfl, by simp only [decide_eq_false_iff_not]; omega⟩⟩
 rw [h, Xae]
 rcases ho with ⟨_, h2⟩ | ⟨h1, h2, h3, h4, h5⟩
 ·
  cases h2
 ·
  exact ⟨_, rfl, h1, h2, h3, h4, h5 rfl⟩
def inB (B : Int) (l : List Int) : Prop := ∀ x ∈ l, -B ≤ x ∧ x ≤ B
theorem Xld {B C : Int} {l : List Int} (h : inB B l) (hc : B ≤ C) : inB C l := fun x hx => by have := h x hx; omega
theorem Xiu {B : Int} {a b : List Int} (ha : inB B a) (hb : inB B b) : inB B (a ++ b) := fun x hx => (List.mem_append.1 hx).elim (ha x) (hb x)
theorem Xp9 (B : Int) : inB B [] := fun x hx => by simp at hx
theorem Yc4 {B x : Int} (h : -B ≤ x ∧ x ≤ B) : inB B [x] := fun y hy => by rw [List.mem_singleton.1 hy]; exact h
theorem Yga {B : Int} {l : List Int} (h : inB B l) (i : Nat) {y : Int} (hy : -B ≤ y ∧ y ≤ B) : inB B (l.set i y) := fun x hx => by
 rcases List.mem_or_eq_of_mem_set hx with hx | hx
 ·
  exact h x hx
 ·
  rw [hx]; exact hy
theorem Yf9 (n : Nat) {B : Int} (h : 0 ≤ B) : inB B (List.replicate n 0) := fun x hx => by rw [List.eq_of_mem_replicate hx]; omega
theorem Xjm {B : Int} {l : List Int} (h : inB B l) {i : Nat} (hi : i < l.length) : -B ≤ l.getD i 0 ∧ l.getD i 0 ≤ B := h _ (by rw [Xe2 l i hi]; exact List.getElem_mem _)
theorem Yg4 {B : Int} {l : List Int} (h : inB B l) (n : Nat) : inB B (l.take n) := fun x hx => h x (List.mem_of_mem_take hx)
theorem Yg2 {B : Int} {l : List Int} (h : inB B l) (n : Nat) : inB B (l.drop n) := fun x hx => h x (List.mem_of_mem_drop hx)
theorem Xc3 {S : Type} {f : Int × S → Option (Lp (Int × S) S)} (n : Nat) (I : Nat → S → Prop) (hs : ∀ (i : Nat) (l : S), i < n → I i l → ∃ l', f ((i : Int), l) = some (.go (((i + 1 : Nat) : Int), l')) ∧ I (i + 1) l') (he : ∀ l, f ((n : Int), l) = some (.done l)) (l0 : S) (h0 : I 0 l0) : ∃ o, loop f (0, l0) = some o ∧ I n o := by
 have key : ∀ i : Nat, i ≤ n → ∀ l, I i l → ∃ o, loop f ((i : Int), l) = some o ∧ I n o := by
  refine Xkj _ ?_ ?_
  ·
   intro l h; exact ⟨l, Xm1 (he l), h⟩
  ·
   intro i hi ih l h
   obtain ⟨l', e, h'⟩ := hs i l hi h
   obtain ⟨o, e2, h2⟩ := ih l' h'
   exact ⟨o, lgo e e2, h2⟩
 exact key 0 (by omega) l0 h0
theorem Xk8 {S : Type} {f : S × Int → Option (Lp (S × Int) S)} (n : Nat) (I : Nat → S → Prop) (hs : ∀ (i : Nat) (l : S), i < n → I i l → ∃ l', f (l, (i : Int)) = some (.go (l', ((i + 1 : Nat) : Int))) ∧ I (i + 1) l') (he : ∀ l, f (l, (n : Int)) = some (.done l)) (l0 : S) (h0 : I 0 l0) : ∃ o, loop f (l0, 0) = some o ∧ I n o := by
 have key : ∀ i : Nat, i ≤ n → ∀ l, I i l → ∃ o, loop f (l, (i : Int)) = some o ∧ I n o := by
  refine Xkj _ ?_ ?_
  ·
   intro l h; exact ⟨l, Xm1 (he l), h⟩
  ·
   intro i hi ih l h
   obtain ⟨l', e, h'⟩ := hs i l hi h
   obtain ⟨o, e2, h2⟩ := ih l' h'
   exact ⟨o, lgo e e2, h2⟩
 exact key 0 (by omega) l0 h0
theorem Xgz (l : List Int) (i j : Nat) (y : Int) (hi : i < l.length) : (l.set i y).getD j 0 = if i = j then y else l.getD j 0 := by
 rw [List.getD_eq_getElem?_getD, List.getElem?_set, List.getD_eq_getElem?_getD]
 by_cases h : i = j
 ·
  subst h; rw [if_pos rfl, if_pos rfl, if_pos hi]; rfl
 ·
  rw [if_neg h, if_neg h]
theorem Xjc {f : Int × List Int → Option (Lp (Int × List Int) (List Int))} (n : Nat) (P Q : Int → Prop) (hs : ∀ (i : Nat) (l : List Int), i < n → l.length = n → P (l.getD i 0) → ∃ y, f ((i : Int), l) = some (.go (((i + 1 : Nat) : Int), l.set i y)) ∧ Q y) (he : ∀ l, f ((n : Int), l) = some (.done l)) (l0 : List Int) (h0 : l0.length = n) (hb : ∀ x ∈ l0, P x) : ∃ o, loop f (0, l0) = some o ∧ o.length = n ∧ ∀ x ∈ o, Q x := by
 obtain ⟨o, e, h1, h2, _⟩ := Xc3 (f := f) n (fun i l => l.length = n ∧ (∀ j, j < i → Q (l.getD j 0)) ∧ ∀ j, i ≤ j → j < n → P (l.getD j 0)) (by
  intro i l hi ⟨g1, g2, g3⟩
  obtain ⟨y, e, hy⟩ := hs i l hi g1 (g3 i (Nat.le_refl _) hi)
  refine ⟨_, e, by rw [List.length_set]; exact g1, fun j hj => ?_, fun j hj hj2 => ?_⟩
  ·
   rw [Xgz l i j y (by omega)]
   by_cases h : i = j
   ·
    rw [if_pos h]; exact hy
   ·
    rw [if_neg h]; exact g2 j (by omega)
  ·
   rw [Xgz l i j y (by omega), if_neg (by omega)]; exact g3 j (by omega) hj2) he l0 ⟨h0, fun j hj => by omega, fun j _ hj => hb _ (by rw [Xe2 l0 j (by omega)]; exact List.getElem_mem _)⟩
 refine ⟨o, e, h1, fun x hx => ?_⟩
 obtain ⟨j, hj, rfl⟩ := List.getElem_of_mem hx
 have := h2 j (by omega)
 rwa [Xe2 o j hj] at this
theorem Xbv (l : List Int) (n B : Int) (hn : (l.length : Int) = n) (hn2 : n ≤ 1000000) (hB : 0 ≤ B ∧ B ≤ 100000000) (h : inB B l) : Xbd l n B = some true := by
 unfold Xbd
 rw [Xd0 (by simp only [bne_eq_false_iff_eq]; exact hn), Xr5 l.length (f := Xcr l n B) (by
  intro i hi
  have := Xjm h hi
  unfold Xcr
  rw [syA, rqA, wkA (e := 0 - B), Xai, Xae, Int.toNat_natCast, decide_eq_true (by omega), Bool.not_true, Xaz, wkA]
  rfl) (by unfold Xcr; rw [snA]), Xae]
def Xr4 (n i : Int) (v17 : Int × Int) : Option (Lp (Int × Int) (Ou Unit Int)) :=
 sel (decide (v17.2 ≤ (Xaa .i64 ((Xaa .i64 (2 * n)) - 2)))) (
 bnd (it (Xkz n i v17) 20 (v17.1, 0)) fun o47 => match o47 with
 | .out v43 => (
 some (.go (v43, Xaa .i64 (v17.2 + 1))))
 | .ret r => some (.done (.ret r))) (
 some (.done (.out ())))
theorem Yfl {n i : Int} {v : Int × Int} {x : Lp (Int × Int) (Ou Unit Int)} (h : Xr4 n i v = some x) : Xh6 n i v = some x := by
 unfold Xr4 at h
 unfold Xh6
 rcases Xgv h with ⟨hb, h⟩ | ⟨hb, h⟩
 ·
  rw [hb, Xa5]
  obtain ⟨a, h1, h2⟩ := Xa4 h
  rw [Xga.2 ⟨20, h1⟩, Xae]
  exact h2
 ·
  rw [hb, Xaz]; exact h
theorem Ykz {V O : Type} {f g : V → Option (Lp V O)} (hf : ∀ v y, f v = some y → g v = some y) {o : O} : ∀ (k : Nat) (v : V), it f k v = some o → it g k v = some o
 | 0, v, h => by cases h
 | k + 1, v, h => by
  rw [it] at h ⊢
  cases e : f v with
  | none => rw [e] at h; cases h
  | some s =>
   rw [e] at h
   rw [hf v s e]
   cases s with
   | go y => exact Ykz hf k y h
   | done o' => exact h
def Xeq (n i : Int) : Int := match it (Xr4 n i) 20 (0, 0) with | some (.ret q) => q | _ => -1
theorem Yk8 : ∀ i : Fin 16, (0 ≤ Xeq 4 (i.val : Int) ∧ Xeq 4 (i.val : Int) < 16) := by decide +kernel
theorem Yk9 : ∀ i : Fin 64, (0 ≤ Xeq 8 (i.val : Int) ∧ Xeq 8 (i.val : Int) < 64) := by decide +kernel
theorem Xfe (n : Int) (hn : n = 4 ∨ n = 8) (i : Nat) (hi : (i : Int) < n * n) : 0 ≤ Xeq n i ∧ Xeq n i < n * n := by
 rcases hn with rfl | rfl
 ·
  exact Yk8 ⟨i, by omega⟩
 ·
  exact Yk9 ⟨i, by omega⟩
theorem Xew (n : Int) (hn : n = 4 ∨ n = 8) (i : Nat) (hi : (i : Int) < n * n) : Xi0 n i = some (Xeq n i) := by
 have hp := Xfe n hn i hi
 unfold Xi0
 have hw : Xaa .i64 (n * n) = n * n := by rcases hn with rfl | rfl <;> exact wkA
 have hc : (sel (n != 4) (sel (n != 8) (some true) (sel (decide ((i : Int) < 0)) (some true) (some (decide ((i : Int) ≥ (Xaa .i64 (n * n))))))) (sel (decide ((i : Int) < 0)) (some true) (some (decide ((i : Int) ≥ (Xaa .i64 (n * n))))))) = some false := by
  rw [hw, Xaw (show ¬ (i : Int) < 0 by omega), decide_eq_false (show ¬ (i : Int) ≥ n * n by omega)]
  rcases hn with rfl | rfl <;> rfl
 rw [hc, Xae, Xaz]
 unfold Xeq at hp ⊢
 cases e : it (Xr4 n i) 20 (0, 0) with
 | none => rw [e] at hp; simp only at hp; omega
 | some s =>
  rw [e] at hp
  have h := Ykz (fun v y => Yfl (n := n) (i := i)) 20 _ e
  rw [Xga.2 ⟨20, h⟩, Xae]
  cases s with
  | out u => simp only at hp; omega
  | ret q => rfl
theorem Xk3 (n : Int) (hn : n = 4 ∨ n = 8) (l : List Int) (B : Int) (hl : (l.length : Int) = n * n) (hb : inB B l) : ∃ o, Xdd n l = some (o, true) ∧ o.length = l.length ∧ inB B o := by
 have hm : maxLen = 9223372036854775807 := rfl
 have hw : Xaa .i64 (n * n) = n * n := by rcases hn with rfl | rfl <;> exact wkA
 have hl2 : l.length ≤ 64 := by rcases hn with rfl | rfl <;> omega
 unfold Xdd
 have hc : (sel (n != 4) (sel (n != 8) (some true) (some ((l.length : Int) != (Xaa .i64 (n * n))))) (some ((l.length : Int) != (Xaa .i64 (n * n))))) = some false := by
  rw [hw, hl, bne_self_eq_false]
  rcases hn with rfl | rfl <;> rfl
 rw [hc, Xae, Xaz]
 obtain ⟨o, e, h1, h2⟩ := Xc3 (f := Xce n l) l.length (fun i s => s.length = i ∧ inB B s) (by
  intro i s hi ⟨g1, g2⟩
  have hp := Xfe n hn i (by omega)
  have ha := Xjm hb (i := (Xeq n i).toNat) (by omega)
  unfold Xce
  simp only
  rw [hw, syA, Xew n hn i (by omega), Xae, rqA, Xb4 (by simp only [List.length_singleton]; omega), wkA]
  exact ⟨_, rfl, by simp; omega, Xiu g2 (Yc4 ha)⟩) (by intro s; unfold Xce; simp only; rw [hw, snA]) [] ⟨rfl, Xp9 B⟩
 exact ⟨o, (Xly e).trans rfl, h1, h2⟩
theorem Xd4 (n : Int) (hn : n = 4 ∨ n = 8) (l : List Int) (B : Int) (hB : 0 ≤ B) (hl : (l.length : Int) = n * n) (hb : inB B l) : ∃ o, Xb7 n l = some (o, true) ∧ o.length = l.length ∧ inB B o := by
 have hm : maxLen = 9223372036854775807 := rfl
 have hw : Xaa .i64 (n * n) = n * n := by rcases hn with rfl | rfl <;> exact wkA
 have hl2 : l.length ≤ 64 := by rcases hn with rfl | rfl <;> omega
 unfold Xb7
 have hc : (sel (n != 4) (sel (n != 8) (some true) (some ((l.length : Int) != (Xaa .i64 (n * n))))) (some ((l.length : Int) != (Xaa .i64 (n * n))))) = some false := by
  rw [hw, hl, bne_self_eq_false]
  rcases hn with rfl | rfl <;> rfl
 rw [hc, Xae, Xaz, rqA, Int.toNat_natCast]
 obtain ⟨o, e, h1, h2⟩ := Xc3 (f := Xbn n l) l.length (fun i s => s.length = l.length ∧ inB B s) (by
  intro i s hi ⟨g1, g2⟩
  have hp := Xfe n hn i (by omega)
  have ha := Xjm hb hi
  unfold Xbn
  simp only
  rw [hw, syA, Xew n hn i (by omega), Xae, rqA, rqA, rqA, wkA, Int.toNat_natCast]
  exact ⟨_, rfl, by rw [List.length_set]; exact g1, Yga g2 _ ha⟩) (by intro s; unfold Xbn; simp only; rw [hw, snA]) (List.replicate l.length 0) ⟨List.length_replicate, Yf9 _ hB⟩
 exact ⟨o, (Xly e).trans rfl, h1, h2⟩
def Xhz (u v : Int) : Int := match it Xgp 10 (1, (IntKind.wrap .i64 (BitVec.ofInt (IntKind.bits .i64) u &&& BitVec.ofInt (IntKind.bits .i64) v).toNat)) with | some q => q | none => 7
theorem Yjz : ∀ u v : Fin 8, (-1 ≤ Xhz (u.val : Int) (v.val : Int) ∧ Xhz (u.val : Int) (v.val : Int) ≤ 1) := by decide +kernel
theorem Xpn (u v : Nat) (hu : u < 8) (hv : v < 8) : ∃ s, Xfl u v = some s ∧ -1 ≤ s ∧ s ≤ 1 := by
 have h := Yjz ⟨u, hu⟩ ⟨v, hv⟩
 simp only at h
 unfold Xfl
 rw [Xai, Xae, decide_eq_true (by omega), Xa5, Xai, Xae, decide_eq_true (by omega), Bool.not_true, Xae, Xaz]
 unfold Xhz at h
 cases e : it Xgp 10 (1, (IntKind.wrap .i64 (BitVec.ofInt (IntKind.bits .i64) (u : Int) &&& BitVec.ofInt (IntKind.bits .i64) (v : Int)).toNat)) with
 | none => rw [e] at h; simp only at h; omega
 | some q =>
  rw [e] at h
  rw [Xga.2 ⟨10, e⟩, Xae]
  exact ⟨q, rfl, h⟩
def Xm7 (qp : Int) : Int := if qp.tmod 6 = 0 then 10 else if qp.tmod 6 = 1 then 11 else if qp.tmod 6 = 2 then 13 else if qp.tmod 6 = 3 then 14 else if qp.tmod 6 = 4 then 16 else 18
def Xk5 (qp : Int) : Int := match it (Xgq qp) 10 (Xm7 qp, 0) with | some q => q | none => 0
theorem Yj3 : ∀ q : Fin 41, (10 ≤ Xk5 (q.val : Int) ∧ Xk5 (q.val : Int) ≤ 1152) := by decide +kernel
theorem Xpp (qp : Int) (h0 : 0 ≤ qp ∧ qp ≤ 40) : ∃ s, Xel qp = some s ∧ 10 ≤ s ∧ s ≤ 1152 := by
 have h := Yj3 ⟨qp.toNat, by omega⟩
 simp only at h
 rw [show ((qp.toNat : Nat) : Int) = qp by omega] at h
 unfold Xel
 rw [Xai, Xae, decide_eq_true (by omega), Bool.not_true, Xaz, rqA]
 have hb : (sel ((qp.tmod 6) == 0) (some (10 : Int)) (sel ((qp.tmod 6) == 1) (some 11) (sel ((qp.tmod 6) == 2) (some 13) (sel ((qp.tmod 6) == 3) (some 14) (sel ((qp.tmod 6) == 4) (some 16) (some 18)))))) = some (Xm7 qp) := by
  unfold Xm7
  simp only [Ydo, beq_iff_eq]
  repeat' split
  all_goals rfl
 rw [hb, Xae]
 unfold Xk5 at h
 cases e : it (Xgq qp) 10 (Xm7 qp, 0) with
 | none => rw [e] at h; simp only at h; omega
 | some q =>
  rw [e] at h
  rw [Xga.2 ⟨10, e⟩, Xae]
  exact ⟨q, rfl, h⟩
theorem Xlv (p : Int) (h : 0 ≤ p ∧ p ≤ 15) : ∃ k, Xg4 p = some k ∧ 0 ≤ k ∧ k ≤ 2 := by
 unfold Xg4
 rw [Xai, Xae, decide_eq_true h, Bool.not_true, Xaz, rqA, rqA, rqA, rqA, Xg3, Xae]
 cases ((Xaa .i64 (p.tdiv 4)).tmod 2 == 0 && (p.tmod 4).tmod 2 == 0) with
 | true => exact ⟨0, rfl, by omega, by omega⟩
 | false =>
  rw [Xaz, Xg3, Xae]
  cases ((Xaa .i64 (p.tdiv 4)).tmod 2 == 1 && (p.tmod 4).tmod 2 == 1) with
  | true => exact ⟨1, rfl, by omega, by omega⟩
  | false => exact ⟨2, rfl, by omega, by omega⟩
theorem Xax (k a b c : Int) : ∃ x, Xay k a b c = some x ∧ (x = a ∨ x = b ∨ x = c) := by
 unfold Xay
 cases (k == 0) with
 | true => exact ⟨a, rfl, Or.inl rfl⟩
 | false =>
  cases (k == 1) with
  | true => exact ⟨b, rfl, Or.inr (Or.inl rfl)⟩
  | false => exact ⟨c, rfl, Or.inr (Or.inr rfl)⟩
theorem Yih (qp : Int) (h0 : 0 ≤ qp ∧ qp ≤ 40) (x : Int) (hx : 0 ≤ x ∧ x ≤ 29) : ∃ o, loop (Xc0 qp) (x, 0) = some o ∧ 0 ≤ o ∧ o ≤ 1856 := by
 obtain ⟨o, e, h1, h2⟩ := Xk8 (f := Xc0 qp) (qp / 6).toNat (fun i s => 0 ≤ s ∧ s ≤ 29 * 2 ^ i) (by
  intro i s hi ⟨g1, g2⟩
  have h6 : (2 : Int) ^ i ≤ 64 := by
   have : i ≤ 6 := by omega
   obtain rfl | rfl | rfl | rfl | rfl | rfl | rfl : i = 0 ∨ i = 1 ∨ i = 2 ∨ i = 3 ∨ i = 4 ∨ i = 5 ∨ i = 6 := by omega
   all_goals decide
  have h7 : (2 : Int) ^ (i + 1) = 2 * 2 ^ i := by rw [Int.pow_succ, Int.mul_comm]
  unfold Xc0
  simp only
  rw [rqA, Xcq (by omega), wkA (e := qp / 6), syA, wkA (e := 2 * s), wkA (e := (i : Int) + 1)]
  exact ⟨_, rfl, by omega, by rw [h7]; omega⟩) (by intro s; unfold Xc0; simp only; rw [rqA, Xcq (by omega), wkA (e := qp / 6), snA]) x ⟨hx.1, by simp; omega⟩
 have h6 : (2 : Int) ^ (qp / 6).toNat ≤ 64 := by
  generalize hi : (qp / 6).toNat = i
  obtain rfl | rfl | rfl | rfl | rfl | rfl | rfl : i = 0 ∨ i = 1 ∨ i = 2 ∨ i = 3 ∨ i = 4 ∨ i = 5 ∨ i = 6 := by omega
  all_goals decide
 exact ⟨o, e, h1, by omega⟩
theorem Xy6 (qp p : Int) (h0 : 0 ≤ qp ∧ qp ≤ 40) (hp : 0 ≤ p ∧ p ≤ 15) : ∃ s, Xfj qp p = some s ∧ 0 ≤ s ∧ s ≤ 1856 := by
 unfold Xfj
 obtain ⟨k, e, k0, k1⟩ := Xlv p hp
 rw [e, Xae, Xai, Xae, decide_eq_true h0, Xa5, decide_eq_false (by omega), Xae, Xaz, rqA]
 obtain ⟨a1, e1, b1⟩ := Xax k 10 16 13
 obtain ⟨a2, e2, b2⟩ := Xax k 11 18 14
 obtain ⟨a3, e3, b3⟩ := Xax k 13 20 16
 obtain ⟨a4, e4, b4⟩ := Xax k 14 23 18
 obtain ⟨a5, e5, b5⟩ := Xax k 16 25 20
 obtain ⟨a6, e6, b6⟩ := Xax k 18 29 23
 rw [e1, e2, e3, e4, e5, e6]
 simp only [Xae, Yho]
 obtain ⟨o, eo, o1, o2⟩ := Yih qp h0 (sel (qp.tmod 6 == 0) a1 (sel (qp.tmod 6 == 1) a2 (sel (qp.tmod 6 == 2) a3 (sel (qp.tmod 6 == 3) a4 (sel (qp.tmod 6 == 4) a5 (sel (qp.tmod 6 == 5) a6 0)))))) (by
  simp only [Ydo]
  repeat' split
  all_goals omega)
 exact ⟨o, (Xly eo).trans rfl, o1, o2⟩
theorem Xza (qp p : Int) (h0 : 0 ≤ qp ∧ qp ≤ 40) (hp : 0 ≤ p ∧ p ≤ 15) : ∃ s, Xfk qp p = some s ∧ 0 ≤ s ∧ s ≤ 13107 := by
 unfold Xfk
 obtain ⟨k, e, k0, k1⟩ := Xlv p hp
 rw [e, Xae, Xai, Xae, decide_eq_true h0, Xa5, decide_eq_false (by omega), Xae, Xaz, rqA]
 obtain ⟨a1, e1, b1⟩ := Xax k 13107 5243 8066
 obtain ⟨a2, e2, b2⟩ := Xax k 11916 4660 7490
 obtain ⟨a3, e3, b3⟩ := Xax k 10082 4194 6554
 obtain ⟨a4, e4, b4⟩ := Xax k 9362 3647 5825
 obtain ⟨a5, e5, b5⟩ := Xax k 8192 3355 5243
 obtain ⟨a6, e6, b6⟩ := Xax k 7282 2893 4559
 rw [e1, e2, e3, e4, e5, e6]
 simp only [Xae, Yho]
 refine ⟨_, rfl, ?_⟩
 simp only [Ydo]
 repeat' split
 all_goals omega
theorem Yhh {a s B : Int} (ha : -B ≤ a ∧ a ≤ B) (hs : -1 ≤ s ∧ s ≤ 1) : (-B ≤ a * s ∧ a * s ≤ B) ∧ (-B ≤ s * a ∧ s * a ≤ B) := by
 obtain rfl | rfl | rfl : s = -1 ∨ s = 0 ∨ s = 1 := by omega
 all_goals omega
theorem Ybk (p : List Int) (B : Int) (hB : 0 ≤ B ∧ B ≤ 1000000000000) (hl : p.length = 64) (hb : inB B p) (i v : Nat) (hi : i < 8) (hv : v < 8) : ∃ o, Xg5 p i v = some o ∧ -(8 * B) ≤ o ∧ o ≤ 8 * B := by
 unfold Xg5
 obtain ⟨o, e, h1, h2⟩ := Xk8 (f := Xct p i v) 8 (fun k s => -(B * k) ≤ s ∧ s ≤ B * k) (by
  intro k s hk ⟨g1, g2⟩
  obtain ⟨q, eq, q0, q1⟩ := Xpn v k hv hk
  have ha := Xjm hb (i := 8 * i + k) (by omega)
  have hm := (Yhh ha ⟨q0, q1⟩).1
  have hk8 : B * k ≤ B * 8 := Int.mul_le_mul_of_nonneg_left (by omega) hB.1
  have hk0 : B * ((k + 1 : Nat) : Int) = B * k + B := by rw [Int.natCast_add, Int.mul_add]; simp
  unfold Xct
  simp only
  rw [syA, wkA (e := 8 * (i : Int)), wkA (e := 8 * (i : Int) + (k : Int)), rqA, eq, Xae, show (8 * (i : Int) + (k : Int)).toNat = 8 * i + k by omega, wkA (e := p.getD (8 * i + k) 0 * q), wkA (e := s + p.getD (8 * i + k) 0 * q), wkA (e := (k : Int) + 1)]
  exact ⟨_, rfl, by rw [hk0]; omega, by rw [hk0]; omega⟩) (by intro s; unfold Xct; rw [Xaw (by simp)]) 0 (by simp)
 exact ⟨o, (Xly e).trans rfl, by omega, by omega⟩
theorem Xoj (p : List Int) (B : Int) (hB : 0 ≤ B ∧ B ≤ 10000000000) (hl : p.length = 64) (hb : inB B p) : ∃ o, Xeb p = some o ∧ o.length = 64 ∧ inB (64 * B) o := by
 have hm : maxLen = 9223372036854775807 := rfl
 unfold Xeb
 obtain ⟨h, eh, hh1, hh2⟩ := Xc3 (f := Xby p) 8 (fun i s => s.length = 8 * i ∧ inB (8 * B) s) (by
  intro i s hi ⟨g1, g2⟩
  obtain ⟨t, et, t1, t2⟩ := Xc3 (f := Xbz p ((i : Int), s)) 8 (fun v s => s.length = 8 * i + v ∧ inB (8 * B) s) (by
   intro v s hv ⟨g1, g2⟩
   obtain ⟨r, er, r1, r2⟩ := Ybk p B ⟨hB.1, by omega⟩ hl hb i v hi hv
   unfold Xbz
   simp only
   rw [syA, er, Xae, Xb4 (by simp only [List.length_singleton]; omega), wkA (e := (v : Int) + 1)]
   exact ⟨_, rfl, by simp; omega, Xiu g2 (Yc4 ⟨by omega, r2⟩)⟩) (by intro s; unfold Xbz; rw [Xaw (by simp)]) s ⟨by omega, g2⟩
  unfold Xby
  simp only
  rw [syA, et, Xae, wkA (e := (i : Int) + 1)]
  exact ⟨_, rfl, by omega, t2⟩) (by intro s; unfold Xby; rw [Xaw (by simp)]) [] ⟨rfl, Xp9 _⟩
 rw [eh, Xae]
 obtain ⟨o, eo, o1, o2⟩ := Xc3 (f := Xbo h) 8 (fun i s => s.length = 8 * i ∧ inB (64 * B) s) (by
  intro i s hi ⟨g1, g2⟩
  obtain ⟨t, et, t1, t2⟩ := Xc3 (f := Xbp h ((i : Int), s)) 8 (fun v s => s.length = 8 * i + v ∧ inB (64 * B) s) (by
   intro v r hv ⟨g1, g2⟩
   obtain ⟨a, ea, a1, a2⟩ := Xk8 (f := Xbq h ((i : Int), s) ((v : Int), r)) 8 (fun k s => -(8 * B * k) ≤ s ∧ s ≤ 8 * B * k) (by
    intro k c hk ⟨g1, g2⟩
    obtain ⟨q, eq, q0, q1⟩ := Xpn i k hi hk
    have ha := Xjm hh2 (i := 8 * k + v) (by omega)
    have hm := (Yhh ha ⟨q0, q1⟩).2
    have hk8 : 8 * B * k ≤ 8 * B * 8 := Int.mul_le_mul_of_nonneg_left (by omega) (by omega)
    have hk0 : 8 * B * ((k + 1 : Nat) : Int) = 8 * B * k + 8 * B := by rw [Int.natCast_add, Int.mul_add]; simp
    unfold Xbq
    simp only
    rw [syA, eq, Xae, wkA (e := 8 * (k : Int)), wkA (e := 8 * (k : Int) + (v : Int)), rqA, rqA, show (8 * (k : Int) + (v : Int)).toNat = 8 * k + v by omega, wkA (e := q * h.getD (8 * k + v) 0), wkA (e := c + q * h.getD (8 * k + v) 0), wkA (e := (k : Int) + 1)]
    exact ⟨_, rfl, by rw [hk0]; omega, by rw [hk0]; omega⟩) (by intro s; unfold Xbq; rw [Xaw (by simp)]) 0 (by simp)
   unfold Xbp
   simp only
   rw [syA, ea, Xae, Xb4 (by simp only [List.length_singleton]; omega), wkA (e := (v : Int) + 1)]
   exact ⟨_, rfl, by simp; omega, Xiu g2 (Yc4 ⟨by omega, by omega⟩)⟩) (by intro s; unfold Xbp; rw [Xaw (by simp)]) s ⟨by omega, g2⟩
  unfold Xbo
  simp only
  rw [syA, et, Xae, wkA (e := (i : Int) + 1)]
  exact ⟨_, rfl, by omega, t2⟩) (by intro s; unfold Xbo; rw [Xaw (by simp)]) [] ⟨rfl, Xp9 _⟩
 exact ⟨o, (Xly eo).trans rfl, by omega, o2⟩
theorem Xh9 (a b : Int) (ha : -1000000000000 ≤ a ∧ a ≤ 1000000000000) (hb : b = 2 ∨ b = 64) : ∃ d, Xbx a b = some d ∧ b * d ≤ a ∧ a < b * d + b := by
 unfold Xbx
 have h1 : b * (a.tdiv b) + a.tmod b = a := Int.mul_tdiv_add_tmod a b
 have h2 : -b < a.tmod b ∧ a.tmod b < b := by
  have hb0 : 0 < b := by omega
  refine ⟨?_, Int.tmod_lt_of_pos a hb0⟩
  have := Int.lt_tmod_of_pos a hb0
  omega
 rw [rqA, rqA]
 generalize a.tmod b = m at h1 h2
 generalize a.tdiv b = t at h1 h2
 have ht : -1000000000001 ≤ t ∧ t ≤ 1000000000001 := by rcases hb with rfl | rfl <;> omega
 by_cases h : m < 0
 ·
  rw [Xck h, Xae, wkA (e := t), wkA (e := t - 1)]
  refine ⟨_, rfl, ?_⟩
  rcases hb with rfl | rfl <;> omega
 ·
  rw [Xaw h, Xae, wkA (e := t)]
  refine ⟨_, rfl, ?_⟩
  rcases hb with rfl | rfl <;> omega
theorem Xsb (p : List Int) (hl : p.length = 64) (hb : inB 255 p) : ∃ o, Xiz p = some o ∧ o.length = 64 := by
 unfold Xiz
 obtain ⟨o, e, h1, h2⟩ := Xoj p 255 (by omega) hl hb
 rw [Xbv p 64 1000 (by omega) (by omega) (by omega) (Xld hb (by omega)), Xae, Bool.not_true, Xaz, e, Xae]
 exact ⟨o, rfl, h1⟩
theorem Xt4 (p : List Int) (hl : p.length = 64) (hb : inB 5760000 p) : ∃ o, Xdk p = some o ∧ o.length = 64 ∧ inB 10000000 o := by
 unfold Xdk
 obtain ⟨o, e, h1, h2⟩ := Xoj p 5760000 (by omega) hl hb
 rw [Xbv p 64 10000000 (by omega) (by omega) (by omega) (Xld hb (by omega)), Xae, Bool.not_true, Xaz, e, Xae]
 obtain ⟨r, er, r1, r2⟩ := Xjc (f := Xd3) 64 (fun x => -368640000 ≤ x ∧ x ≤ 368640000) (fun x => -10000000 ≤ x ∧ x ≤ 10000000) (by
  intro i l hi hll hx
  obtain ⟨d, ed, d1, d2⟩ := Xh9 (l.getD i 0 + 32) 64 (by omega) (Or.inr rfl)
  unfold Xd3
  simp only [Int.toNat_natCast]
  rw [syA, rqA, rqA, wkA (e := l.getD i 0 + 32), ed, Xae, rqA, rqA, wkA (e := (i : Int) + 1)]
  exact ⟨d, rfl, by omega, by omega⟩) (by intro s; unfold Xd3; rw [Xaw (by simp)]) o h1 (fun x hx => by have := h2 x hx; omega)
 exact ⟨r, (Xly er).trans rfl, r1, r2⟩
theorem Xic (p : List Int) (B : Int) (hB : 0 ≤ B) (hl : p.length = 16) (hb : inB B p) : ∃ o, Xcs p = some o ∧ o.length = 16 ∧ inB B o := by
 unfold Xcs
 rw [rqA]
 obtain ⟨o, e, h1, h2⟩ := Xc3 (f := Xcf p) 16 (fun i s => s.length = 16 ∧ inB B s) (by
  intro i s hi ⟨g1, g2⟩
  have ha := Xjm hb (i := i) (by omega)
  unfold Xcf
  simp only
  rw [syA, rqA, rqA, rqA, Xjg (by omega), Xcq (by omega), wkA (e := (i : Int) / 4), wkA (e := (i : Int) % 4 * 4), wkA (e := (i : Int) % 4 * 4 + (i : Int) / 4), rqA, rqA, wkA (e := (i : Int) + 1), Int.toNat_natCast]
  exact ⟨_, rfl, by rw [List.length_set]; exact g1, Yga g2 _ ha⟩) (by intro s; unfold Xcf; rw [Xaw (by simp)]) (List.replicate (16 : Int).toNat 0) ⟨by simp, Yf9 _ hB⟩
 exact ⟨o, (Xly e).trans rfl, h1, h2⟩
theorem Yg3 {B a b c d : Int} (h1 : -B ≤ a ∧ a ≤ B) (h2 : -B ≤ b ∧ b ≤ B) (h3 : -B ≤ c ∧ c ≤ B) (h4 : -B ≤ d ∧ d ≤ B) : inB B [a, b, c, d] := fun x hx => by
 simp only [List.mem_cons, List.not_mem_nil, or_false] at hx
 rcases hx with rfl | rfl | rfl | rfl
 ·
  exact h1
 ·
  exact h2
 ·
  exact h3
 ·
  exact h4
theorem Xog (p : List Int) (B : Int) (hB : 0 ≤ B ∧ B ≤ 1000000000) (hl : p.length = 16) (hb : inB B p) : ∃ o, Xea p = some o ∧ o.length = 16 ∧ inB (6 * B) o := by
 have hm : maxLen = 9223372036854775807 := rfl
 unfold Xea
 obtain ⟨o, e, h1, h2⟩ := Xc3 (f := Xcg p) 4 (fun i s => s.length = 4 * i ∧ inB (6 * B) s) (by
  intro i s hi ⟨g1, g2⟩
  have a0 := Xjm hb (i := 4 * i) (by omega)
  have a1 := Xjm hb (i := 4 * i + 1) (by omega)
  have a2 := Xjm hb (i := 4 * i + 2) (by omega)
  have a3 := Xjm hb (i := 4 * i + 3) (by omega)
  unfold Xcg
  simp only
  rw [syA, wkA (e := 4 * (i : Int)), wkA (e := 4 * (i : Int) + 1), wkA (e := 4 * (i : Int) + 2), wkA (e := 4 * (i : Int) + 3), rqA, rqA, rqA, rqA, show (4 * (i : Int)).toNat = 4 * i by omega, show (4 * (i : Int) + 1).toNat = 4 * i + 1 by omega, show (4 * (i : Int) + 2).toNat = 4 * i + 2 by omega, show (4 * (i : Int) + 3).toNat = 4 * i + 3 by omega]
  generalize p.getD (4 * i) 0 = a at *
  generalize p.getD (4 * i + 1) 0 = b at *
  generalize p.getD (4 * i + 2) 0 = c at *
  generalize p.getD (4 * i + 3) 0 = d at *
  rw [wkA (e := (i : Int) + 1)]
  have w1 : Xaa .i64 (Xaa .i64 (Xaa .i64 (a + b) + c) + d) = a + b + c + d := by
   rw [wkA (e := a + b), wkA (e := a + b + c), wkA]
  have w2 : Xaa .i64 (Xaa .i64 (Xaa .i64 (Xaa .i64 (2 * a) + b) - c) - Xaa .i64 (2 * d)) = 2 * a + b - c - 2 * d := by
   rw [wkA (e := 2 * a), wkA (e := 2 * d), wkA (e := 2 * a + b), wkA (e := 2 * a + b - c), wkA]
  have w3 : Xaa .i64 (Xaa .i64 (Xaa .i64 (a - b) - c) + d) = a - b - c + d := by
   rw [wkA (e := a - b), wkA (e := a - b - c), wkA]
  have w4 : Xaa .i64 (Xaa .i64 (Xaa .i64 (a - Xaa .i64 (2 * b)) + Xaa .i64 (2 * c)) - d) = a - 2 * b + 2 * c - d := by
   rw [wkA (e := 2 * b), wkA (e := 2 * c), wkA (e := a - 2 * b), wkA (e := a - 2 * b + 2 * c), wkA]
  rw [w1, w2, w3, w4, Xb4 (by simp only [List.length_cons, List.length_nil]; omega)]
  exact ⟨_, rfl, by simp; omega, Xiu g2 (Yg3 (by omega) (by omega) (by omega) (by omega))⟩) (by intro s; unfold Xcg; rw [Xaw (by simp)]) [] ⟨rfl, Xp9 _⟩
 exact ⟨o, (Xly e).trans rfl, h1, h2⟩
theorem Xnk (p : List Int) (B : Int) (hB : 0 ≤ B ∧ B ≤ 1000000000) (hl : p.length = 16) (hb : inB B p) : ∃ o, Xde p = some o ∧ o.length = 16 ∧ inB (4 * B + 2) o := by
 have hm : maxLen = 9223372036854775807 := rfl
 unfold Xde
 obtain ⟨o, e, h1, h2⟩ := Xc3 (f := Xbw p) 4 (fun i s => s.length = 4 * i ∧ inB (4 * B + 2) s) (by
  intro i s hi ⟨g1, g2⟩
  have a0 := Xjm hb (i := 4 * i) (by omega)
  have a1 := Xjm hb (i := 4 * i + 1) (by omega)
  have a2 := Xjm hb (i := 4 * i + 2) (by omega)
  have a3 := Xjm hb (i := 4 * i + 3) (by omega)
  obtain ⟨f, ef, f1, f2⟩ := Xh9 (p.getD (4 * i + 1) 0) 2 (by omega) (Or.inl rfl)
  obtain ⟨g, eg, g1', g2'⟩ := Xh9 (p.getD (4 * i + 3) 0) 2 (by omega) (Or.inl rfl)
  unfold Xbw
  simp only
  rw [syA, wkA (e := 4 * (i : Int)), wkA (e := 4 * (i : Int) + 1), wkA (e := 4 * (i : Int) + 2), wkA (e := 4 * (i : Int) + 3), rqA, rqA, rqA, rqA, show (4 * (i : Int)).toNat = 4 * i by omega, show (4 * (i : Int) + 1).toNat = 4 * i + 1 by omega, show (4 * (i : Int) + 2).toNat = 4 * i + 2 by omega, show (4 * (i : Int) + 3).toNat = 4 * i + 3 by omega, ef, Xae, eg, Xae]
  generalize p.getD (4 * i) 0 = a at *
  generalize p.getD (4 * i + 1) 0 = b at *
  generalize p.getD (4 * i + 2) 0 = c at *
  generalize p.getD (4 * i + 3) 0 = d at *
  rw [wkA (e := (i : Int) + 1), wkA (e := a + c), wkA (e := a - c), wkA (e := b + g), wkA (e := f - d), wkA (e := a + c + (b + g)), wkA (e := a - c + (f - d)), wkA (e := a - c - (f - d)), wkA (e := a + c - (b + g)), Xb4 (by simp only [List.length_cons, List.length_nil]; omega)]
  exact ⟨_, rfl, by simp; omega, Xiu g2 (Yg3 (by omega) (by omega) (by omega) (by omega))⟩) (by intro s; unfold Xbw; rw [Xaw (by simp)]) [] ⟨rfl, Xp9 _⟩
 exact ⟨o, (Xly e).trans rfl, h1, h2⟩
theorem Xux (p : List Int) (hl : p.length = 16) (hb : inB 255 p) : ∃ o, Xkx p = some o ∧ o.length = 16 ∧ inB 9180 o := by
 unfold Xkx
 obtain ⟨a, ea, a1, a2⟩ := Xog p 255 (by omega) hl hb
 obtain ⟨b, eb, b1, b2⟩ := Xic a (6 * 255) (by omega) a1 a2
 obtain ⟨c, ec, c1, c2⟩ := Xog b (6 * 255) (by omega) b1 b2
 obtain ⟨d, ed, d1, d2⟩ := Xic c (6 * (6 * 255)) (by omega) c1 c2
 rw [Xbv p 16 1000 (by omega) (by omega) (by omega) (Xld hb (by omega)), Xae, Bool.not_true, Xaz, ea, Xae, eb, Xae, ec, Xae, ed, Xae]
 exact ⟨d, rfl, d1, d2⟩
theorem Xnf (p : List Int) (hl : p.length = 16) (hb : inB 10000000 p) : ∃ o, Xej p = some o ∧ o.length = 16 ∧ inB 10000000 o := by
 unfold Xej
 obtain ⟨a, ea, a1, a2⟩ := Xnk p 10000000 (by omega) hl hb
 obtain ⟨b, eb, b1, b2⟩ := Xic a _ (by omega) a1 a2
 obtain ⟨c, ec, c1, c2⟩ := Xnk b _ (by omega) b1 b2
 obtain ⟨d, ed, d1, d2⟩ := Xic c _ (by omega) c1 c2
 rw [Xbv p 16 10000000 (by omega) (by omega) (by omega) hb, Xae, Bool.not_true, Xaz, ea, Xae, eb, Xae, ec, Xae, ed, Xae]
 obtain ⟨r, er, r1, r2⟩ := Xjc (f := Xer) 16 (fun x => -160000010 ≤ x ∧ x ≤ 160000010) (fun x => -10000000 ≤ x ∧ x ≤ 10000000) (by
  intro i l hi hll hx
  obtain ⟨d, ed, d1, d2⟩ := Xh9 (l.getD i 0 + 32) 64 (by omega) (Or.inr rfl)
  unfold Xer
  simp only [Int.toNat_natCast]
  rw [syA, rqA, rqA, wkA (e := l.getD i 0 + 32), ed, Xae, rqA, rqA, wkA (e := (i : Int) + 1)]
  exact ⟨d, rfl, by omega, by omega⟩) (by intro s; unfold Xer; rw [Xaw (by simp)]) d d1 (fun x hx => by have := d2 x hx; omega)
 exact ⟨r, (Xly er).trans rfl, r1, r2⟩
theorem Xj4 (x : Int) (h : -1000000000000 ≤ x ∧ x ≤ 1000000000000) : Xcp x = some (Xuo x) := by
 unfold Xcp Xuo
 by_cases hx : x < 0
 ·
  rw [Xck hx, if_pos hx, wkA]; congr 1; omega
 ·
  rw [Xaw hx, if_neg hx]
theorem Xmk (w x B : Int) (h : 0 ≤ x ∧ x ≤ B) (hB : B ≤ 1000000000) : ∃ o, Xdo w x = some o ∧ -B ≤ o ∧ o ≤ B := by
 unfold Xdo
 by_cases hx : w < 0
 ·
  rw [Xck hx, wkA]; exact ⟨_, rfl, by omega, by omega⟩
 ·
  rw [Xaw hx]; exact ⟨_, rfl, by omega, by omega⟩
def Ylc (qp : Int) : Int := Xaa .i64 (1 * 2 ^ min (Xaa .u64 (Xaa .i64 (15 + (Xaa .i64 (qp.tdiv 6))))).toNat (IntKind.bits .i64))
theorem Yld : ∀ q : Fin 41, (0 ≤ Xaa .u64 (Xaa .i64 (15 + (Xaa .i64 ((q.val : Int).tdiv 6)))) ∧ 32768 ≤ Ylc (q.val : Int) ∧ Ylc (q.val : Int) ≤ 2097152) := by decide +kernel
theorem Xli (w qp p : Int) (hw : -9180 ≤ w ∧ w ≤ 9180) (h0 : 0 ≤ qp ∧ qp ≤ 40) (hp : 0 ≤ p ∧ p ≤ 15) : ∃ o, Xc1 w qp p = some o ∧ -5000 ≤ o ∧ o ≤ 5000 := by
 have hs := Yld ⟨qp.toNat, by omega⟩
 simp only at hs
 rw [show ((qp.toNat : Nat) : Int) = qp by omega] at hs
 obtain ⟨s1, s2, s3⟩ := hs
 obtain ⟨s, es, q0, q1⟩ := Xza qp p h0 hp
 unfold Xc1
 have en : Xaa .i64 (1 * 2 ^ min (Xaa .u64 (Xaa .i64 (15 + (Xaa .i64 (qp.tdiv 6))))).toNat (IntKind.bits .i64)) = Ylc qp := rfl
 rw [Xai, Xae, decide_eq_true (by omega), Xa5, Xai, Xae, decide_eq_true h0, Xa5, Xai, Xae, decide_eq_true hp, Bool.not_true, Xae, Xaz, rqA, Xb4 s1, Xj4 w (by omega), Xae, es, Xae, rqA, en]
 generalize Ylc qp = n at *
 have ha : 0 ≤ Xuo w ∧ Xuo w ≤ 9180 := by unfold Xuo; split <;> omega
 generalize Xuo w = a at *
 have hm : 0 ≤ a * s ∧ a * s ≤ 9180 * 13107 := ⟨Int.mul_nonneg ha.1 q0, Int.mul_le_mul ha.2 q1 q0 (by omega)⟩
 rw [rqA, wkA (e := a * s), Xcq (a := n) (by omega), wkA (e := n / 3), wkA (e := a * s + n / 3), Xcq (by omega)]
 have d0 : 0 ≤ (a * s + n / 3) / n := Int.ediv_nonneg (by omega) (by omega)
 have d1 : (a * s + n / 3) / n < 5000 := Int.ediv_lt_of_lt_mul (by omega) (by omega)
 rw [wkA]
 obtain ⟨o, eo, o1, o2⟩ := Xmk w _ 5000 ⟨d0, by omega⟩ (by omega)
 rw [eo, Xae]
 exact ⟨o, rfl, o1, o2⟩
theorem Xlf (w qp : Int) (h0 : 0 ≤ qp ∧ qp ≤ 40) : ∃ o, Xcz w qp = some o ∧ -5000 ≤ o ∧ o ≤ 5000 := by
 unfold Xcz
 rw [Xai, Xae]
 by_cases hw : -20000 ≤ w ∧ w ≤ 20000
 ·
  obtain ⟨s, es, q0, q1⟩ := Xpp qp h0
  rw [decide_eq_true hw, Xa5, Xai, Xae, decide_eq_true h0, Bool.not_true, Xae, Xaz, es, Xae, Xj4 w (by omega), Xae]
  have ha : 0 ≤ Xuo w ∧ Xuo w ≤ 20000 := by unfold Xuo; split <;> omega
  generalize Xuo w = a at *
  rw [rqA, rqA, Xcq (a := s) (by omega), wkA (e := s / 2), wkA (e := a + s / 2), Xcq (by omega)]
  have d0 : 0 ≤ (a + s / 2) / s := Int.ediv_nonneg (by omega) (by omega)
  have d1 : (a + s / 2) / s < 5000 := Int.ediv_lt_of_lt_mul (by omega) (by omega)
  rw [wkA]
  obtain ⟨o, eo, o1, o2⟩ := Xmk w _ 5000 ⟨d0, by omega⟩ (by omega)
  rw [eo, Xae]
  exact ⟨o, rfl, o1, o2⟩
 ·
  rw [decide_eq_false hw, Xaz, Xae, Xa5]
  exact ⟨0, rfl, by omega, by omega⟩
theorem Xmg (l qp p : Int) (hl : -5000 ≤ l ∧ l ≤ 5000) (h0 : 0 ≤ qp ∧ qp ≤ 40) (hp : 0 ≤ p ∧ p ≤ 15) : ∃ o, Xdn l qp p = some o ∧ -10000000 ≤ o ∧ o ≤ 10000000 := by
 unfold Xdn
 obtain ⟨s, es, q0, q1⟩ := Xy6 qp p h0 hp
 rw [Xai, Xae, decide_eq_true hl, Bool.not_true, Xaz, es, Xae]
 have m1 : l * s ≤ 5000 * s := Int.mul_le_mul_of_nonneg_right hl.2 q0
 have m2 : -5000 * s ≤ l * s := Int.mul_le_mul_of_nonneg_right hl.1 q0
 rw [wkA]
 exact ⟨_, rfl, by omega, by omega⟩
theorem Xmf (l qp : Int) (hl : -5000 ≤ l ∧ l ≤ 5000) (h0 : 0 ≤ qp ∧ qp ≤ 40) : ∃ o, Xdm l qp = some o ∧ -5760000 ≤ o ∧ o ≤ 5760000 := by
 unfold Xdm
 obtain ⟨s, es, q0, q1⟩ := Xpp qp h0
 rw [Xai, Xae, decide_eq_true hl, Bool.not_true, Xaz, es, Xae]
 have m1 : l * s ≤ 5000 * s := Int.mul_le_mul_of_nonneg_right hl.2 (by omega)
 have m2 : -5000 * s ≤ l * s := Int.mul_le_mul_of_nonneg_right hl.1 (by omega)
 rw [wkA]
 exact ⟨_, rfl, by omega, by omega⟩
theorem Ygh {l : List Int} (h1 : l.length = 64) (h2 : inB 5000 l) : Yao l = true := by
 unfold Yao
 rw [Bool.and_eq_true, decide_eq_true_eq, List.all_eq_true]
 exact ⟨h1, fun x hx => by unfold Yml; rw [decide_eq_true_eq]; exact h2 x hx⟩
theorem Xyh {l : List Int} (h : Yao l = true) : l.length = 64 ∧ inB 5000 l := by
 obtain ⟨h1, h2⟩ := Yia h
 refine ⟨h1, fun x hx => ?_⟩
 have := List.all_eq_true.1 h2 x hx
 unfold Yml at this
 rwa [decide_eq_true_eq] at this
theorem Xqx {c : Cond} (h : Xla c = true) : 0 ≤ c.Qp ∧ c.Qp ≤ 40 := by
 unfold Xla at h
 rw [Bool.and_eq_true, decide_eq_true_eq] at h
 exact h.1
theorem Xlj (p : List Int) (k : Nat) (hk : k < 4) (B : Int) (hl : p.length = 64) (hb : inB B p) : ∃ o, Xc2 p k = some o ∧ o.length = 16 ∧ inB B o := by
 have hm : maxLen = 9223372036854775807 := rfl
 unfold Xc2
 obtain ⟨o, e, h1, h2⟩ := Xc3 (f := Xbb p k) 16 (fun i s => s.length = i ∧ inB B s) (by
  intro i s hi ⟨g1, g2⟩
  have ha := Xjm hb (i := (8 * ((k : Int) / 2 * 4 + (i : Int) / 4) + (k : Int) % 2 * 4 + (i : Int) % 4).toNat) (by omega)
  unfold Xbb
  simp only
  rw [syA, rqA, rqA, rqA, rqA, Xcq (a := (k : Int)) (by omega), Xcq (a := (i : Int)) (by omega), Xjg (a := (k : Int)) (by omega), Xjg (a := (i : Int)) (by omega), wkA (e := (k : Int) / 2), wkA (e := (k : Int) / 2 * 4), wkA (e := (i : Int) / 4), wkA (e := (k : Int) / 2 * 4 + (i : Int) / 4), wkA (e := 8 * ((k : Int) / 2 * 4 + (i : Int) / 4)), wkA (e := (k : Int) % 2 * 4), wkA (e := 8 * ((k : Int) / 2 * 4 + (i : Int) / 4) + (k : Int) % 2 * 4), wkA (e := 8 * ((k : Int) / 2 * 4 + (i : Int) / 4) + (k : Int) % 2 * 4 + (i : Int) % 4), rqA, Xb4 (by simp only [List.length_singleton]; omega), wkA (e := (i : Int) + 1)]
  exact ⟨_, rfl, by simp; omega, Xiu g2 (Yc4 ha)⟩) (by intro s; unfold Xbb; rw [Xaw (by simp)]) [] ⟨rfl, Xp9 _⟩
 exact ⟨o, (Xly e).trans rfl, h1, h2⟩
theorem Xnh (p : List Int) (c : Cond) (hc : Xla c = true) (hl : p.length = 64) (hb : inB 255 p) : ∃ o, Xbu p c = some (o, true) ∧ Yao o = true := by
 have hm : maxLen = 9223372036854775807 := rfl
 have hq := Xqx hc
 unfold Xbu
 rw [Xdj, Xae, hc, Xa5, Xbv p 64 255 (by omega) (by omega) (by omega) hb, Xae, Bool.not_true, Xae, Xaz]
 cases hE : c.Exact with
 | true =>
  obtain ⟨o, e, h1, h2⟩ := Xk3 8 (Or.inr rfl) p 255 (by omega) hb
  rw [Xa5, e, Xae]
  exact ⟨o, rfl, Ygh (by omega) (Xld h2 (by omega))⟩
 | false =>
  rw [Xaz]
  cases hL : c.Large with
  | true =>
   obtain ⟨w, ew, w1⟩ := Xsb p hl hb
   obtain ⟨l, el, l1, l2⟩ := Xjc (f := Xbe c) 64 (fun _ => True) (fun x => -5000 ≤ x ∧ x ≤ 5000) (by
    intro i l hi hll _
    obtain ⟨d, ed, d1, d2⟩ := Xlf (l.getD i 0) c.Qp hq
    unfold Xbe
    simp only [Int.toNat_natCast]
    rw [syA, rqA, rqA, ed, Xae, rqA, rqA, wkA (e := (i : Int) + 1)]
    exact ⟨d, rfl, d1, d2⟩) (by intro s; unfold Xbe; rw [Xaw (by simp)]) w w1 (fun _ _ => trivial)
   obtain ⟨o, e, h1, h2⟩ := Xk3 8 (Or.inr rfl) l 5000 (by omega) l2
   rw [Xa5, ew, Xae, el, Xae, e, Xae]
   exact ⟨o, rfl, Ygh (by omega) h2⟩
  | false =>
   obtain ⟨o, eo, o1, o2⟩ := Xc3 (f := Xb6 p c) 4 (fun k s => s.length = 16 * k ∧ inB 5000 s) (by
    intro k s hk ⟨g1, g2⟩
    obtain ⟨a, ea, a1, a2⟩ := Xlj p k hk 255 hl hb
    obtain ⟨b, eb, b1, b2⟩ := Xux a a1 a2
    obtain ⟨l, el, l1, l2⟩ := Xjc (f := Xa9 c) 16 (fun x => -9180 ≤ x ∧ x ≤ 9180) (fun x => -5000 ≤ x ∧ x ≤ 5000) (by
     intro i l hi hll hx
     obtain ⟨d, ed, d1, d2⟩ := Xli (l.getD i 0) c.Qp i hx hq (by omega)
     unfold Xa9
     simp only [Int.toNat_natCast]
     rw [syA, rqA, rqA, ed, Xae, rqA, rqA, wkA (e := (i : Int) + 1)]
     exact ⟨d, rfl, d1, d2⟩) (by intro s; unfold Xa9; rw [Xaw (by simp)]) b b1 b2
    obtain ⟨r, er, r1, r2⟩ := Xk3 4 (Or.inl rfl) l 5000 (by omega) l2
    unfold Xb6
    simp only
    rw [syA, ea, Xae, eb, Xae, el, Xae, er, Xae]
    simp only
    rw [rqA, wkA (e := (k : Int) + 1)]
    exact ⟨_, rfl, by rw [List.length_append]; omega, Xiu g2 r2⟩) (by intro s; unfold Xb6; rw [Xaw (by simp)]) [] ⟨rfl, Xp9 _⟩
   rw [Xaz, eo, Xae]
   exact ⟨o, rfl, Ygh (by omega) o2⟩
theorem Xlh (p : List Int) (c : Cond) (hc : Xla c = true) (hp : Yao p = true) : ∃ o, Xcd p c = some (o, true) ∧ o.length = 64 ∧ inB 10000000 o := by
 have hm : maxLen = 9223372036854775807 := rfl
 have hq := Xqx hc
 obtain ⟨hl, hb⟩ := Xyh hp
 unfold Xcd
 rw [Xdj, Xae, hc, Xa5, Xbv p 64 5000 (by omega) (by omega) (by omega) hb, Xae, Bool.not_true, Xae, Xaz]
 cases hE : c.Exact with
 | true =>
  obtain ⟨o, e, h1, h2⟩ := Xd4 8 (Or.inr rfl) p 5000 (by omega) (by omega) hb
  rw [Xa5, e, Xae]
  exact ⟨o, rfl, by omega, Xld h2 (by omega)⟩
 | false =>
  rw [Xaz]
  cases hL : c.Large with
  | true =>
   obtain ⟨w, ew, w1, w2⟩ := Xd4 8 (Or.inr rfl) p 5000 (by omega) (by omega) hb
   obtain ⟨l, el, l1, l2⟩ := Xjc (f := Xa2 c) 64 (fun x => -5000 ≤ x ∧ x ≤ 5000) (fun x => -5760000 ≤ x ∧ x ≤ 5760000) (by
    intro i l hi hll hx
    obtain ⟨d, ed, d1, d2⟩ := Xmf (l.getD i 0) c.Qp hx hq
    unfold Xa2
    simp only [Int.toNat_natCast]
    rw [syA, rqA, rqA, ed, Xae, rqA, rqA, wkA (e := (i : Int) + 1)]
    exact ⟨d, rfl, d1, d2⟩) (by intro s; unfold Xa2; rw [Xaw (by simp)]) w (by omega) w2
   obtain ⟨o, e, h1, h2⟩ := Xt4 l l1 l2
   rw [Xa5, ew, Xae, el, Xae, e, Xae]
   exact ⟨o, rfl, h1, h2⟩
  | false =>
   obtain ⟨o, eo, o1, o2⟩ := Xc3 (f := Xbl p c) 4 (fun k s => s.length = 64 ∧ inB 10000000 s) (by
    intro k s hk ⟨g1, g2⟩
    have hcut : ((p.drop (16 * k)).take 16).length = 16 := by rw [List.length_take, List.length_drop]; omega
    obtain ⟨a, ea, a1, a2⟩ := Xd4 4 (Or.inl rfl) ((p.drop (16 * k)).take 16) 5000 (by omega) (by omega) (Yg4 (Yg2 hb _) _)
    obtain ⟨l, el, l1, l2⟩ := Xjc (f := Xa1 c) 16 (fun x => -5000 ≤ x ∧ x ≤ 5000) (fun x => -10000000 ≤ x ∧ x ≤ 10000000) (by
     intro i l hi hll hx
     obtain ⟨d, ed, d1, d2⟩ := Xmg (l.getD i 0) c.Qp i hx hq (by omega)
     unfold Xa1
     simp only [Int.toNat_natCast]
     rw [syA, rqA, rqA, ed, Xae, rqA, rqA, wkA (e := (i : Int) + 1)]
     exact ⟨d, rfl, d1, d2⟩) (by intro s; unfold Xa1; rw [Xaw (by simp)]) a (by omega) a2
    obtain ⟨b, eb, b1, b2⟩ := Xnf l l1 l2
    obtain ⟨r, er, r1, r2⟩ := Xc3 (f := Xa3 ((k : Int), s) b) 16 (fun i s => s.length = 64 ∧ inB 10000000 s) (by
     intro i s hi ⟨g1, g2⟩
     have ha := Xjm b2 (i := i) (by omega)
     unfold Xa3
     simp only
     rw [syA, rqA, rqA, rqA, rqA, rqA, rqA, Xcq (a := (k : Int)) (by omega), Xcq (a := (i : Int)) (by omega), Xjg (a := (k : Int)) (by omega), Xjg (a := (i : Int)) (by omega), wkA (e := (k : Int) / 2), wkA (e := (k : Int) / 2 * 4), wkA (e := (i : Int) / 4), wkA (e := (k : Int) / 2 * 4 + (i : Int) / 4), wkA (e := 8 * ((k : Int) / 2 * 4 + (i : Int) / 4)), wkA (e := (k : Int) % 2 * 4), wkA (e := 8 * ((k : Int) / 2 * 4 + (i : Int) / 4) + (k : Int) % 2 * 4), wkA (e := 8 * ((k : Int) / 2 * 4 + (i : Int) / 4) + (k : Int) % 2 * 4 + (i : Int) % 4), rqA, rqA, wkA (e := (i : Int) + 1), Int.toNat_natCast]
     exact ⟨_, rfl, by rw [List.length_set]; exact g1, Yga g2 _ ha⟩) (by intro s; unfold Xa3; rw [Xaw (by simp)]) s ⟨g1, g2⟩
    unfold Xbl
    simp only
    rw [syA, wkA (e := 16 * (k : Int)), wkA (e := 16 * (k : Int) + 16), rqA, show (16 * (k : Int)).toNat = 16 * k by omega, show (16 * (k : Int) + 16).toNat - 16 * k = 16 by omega, ea, Xae, el, Xae, eb, Xae, er, Xae, wkA (e := (k : Int) + 1)]
    exact ⟨_, rfl, r1, r2⟩) (by intro s; unfold Xbl; rw [Xaw (by simp)]) (List.replicate (64 : Int).toNat 0) ⟨by simp, Yf9 _ (by omega)⟩
   rw [Xaz, rqA, eo, Xae]
   exact ⟨o, rfl, o1, o2⟩
theorem Xes (l : List Int) (h : Xbg l = true) : Xcu l = some true := by
 obtain ⟨h1, h2⟩ := Xbh h
 unfold Xcu
 rw [Xd0 (by simp only [bne_eq_false_iff_eq]; omega), Xr5 l.length (f := Xch l) (by
  intro i hi
  have := h2 i (by omega)
  unfold Xch
  rw [syA, rqA, Xai, Xae, Int.toNat_natCast, decide_eq_true this, Bool.not_true, Xaz, wkA]
  rfl) (by unfold Xch; rw [snA]), Xae]
theorem Yej {l : List Int} (h1 : l.length = 64) (h2 : ∀ x ∈ l, 0 ≤ x ∧ x ≤ 255) : Xbg l = true := by
 unfold Xbg
 rw [Bool.and_eq_true, decide_eq_true_eq, List.all_eq_true]
 exact ⟨h1, fun x hx => by unfold Yf2; rw [decide_eq_true_eq]; exact h2 x hx⟩
theorem Xpg (g b : List Int) (hg : Xbg g = true) (hl : b.length = 64) (hb : inB 10000000 b) : ∃ o, Xfi g b = some o ∧ Xbg o = true := by
 have hm : maxLen = 9223372036854775807 := rfl
 obtain ⟨g1, g2⟩ := Xbh hg
 unfold Xfi
 rw [Xes g hg, Xae, Xa5, Xbv b 64 10000000 (by omega) (by omega) (by omega) hb, Xae, Bool.not_true, Xae, Xaz]
 obtain ⟨o, e, h1, h2⟩ := Xc3 (f := Xdl g b) 64 (fun i s => s.length = i ∧ ∀ x ∈ s, 0 ≤ x ∧ x ≤ 255) (by
  intro i s hi ⟨k1, k2⟩
  have ha := Xjm hb (i := i) (by omega)
  have hd := g2 i hi
  have br := Xkd (n := g.getD i 0 + b.getD i 0) (a := 0) (b := 255) (by omega)
  unfold Xdl
  simp only [Int.toNat_natCast]
  rw [syA, rqA, rqA, wkA (e := g.getD i 0 + b.getD i 0), Xd1, Xae, Xb4 (by simp only [List.length_singleton]; omega), wkA (e := (i : Int) + 1)]
  refine ⟨_, rfl, by simp; omega, fun x hx => ?_⟩
  rcases List.mem_append.1 hx with hx | hx
  ·
   exact k2 x hx
  ·
   rw [List.mem_singleton.1 hx]; exact br) (by intro s; unfold Xdl; rw [Xaw (by simp)]) [] ⟨rfl, fun x hx => by simp at hx⟩
 exact ⟨o, (Xly e).trans rfl, Yej h1 h2⟩
def Xnu (e : Xft) : Prop := (e.Above.length = 0 ∨ e.Above.length = 8) ∧ (e.Left.length = 0 ∨ e.Left.length = 8) ∧ (∀ x ∈ e.Above, 0 ≤ x ∧ x ≤ 255) ∧ (∀ x ∈ e.Left, 0 ≤ x ∧ x ≤ 255) ∧ -1 ≤ e.Corner ∧ e.Corner ≤ 255
theorem Xj5 {p : Pic} (ok : Xe0 p = true) (x y : Int) : Xdp p x y 8 8 = some (Xcv p x y) := by
 obtain ⟨k1, k2, k3⟩ := Xcj ok
 unfold Xdp Xcv
 rw [Xek, Xae, ok, Xa5, Xai, Xae, Xai, Xae, wkA (e := p.Wide - 8), wkA (e := p.High - 8), Xai, Xae, Xai, Xae]
 simp only [Xg3, Xae]
 congr 1
 rw [Bool.eq_iff_iff]
 simp only [Bool.and_eq_true, decide_eq_true_eq]
 omega
theorem Xet {p : Pic} (ok : Xe0 p = true) {x y : Int} (hx : x.tmod 8 = 0) (hy : y.tmod 8 = 0) (h : Xcv p x y = true) : Xci p x y = some true := by
 unfold Xci
 rw [rqA, hx, rqA, hy, Xj5 ok, Xae, h]
 rfl
theorem Xoa {p : Pic} (ok : Xe0 p = true) {x y : Int} (hx : x.tmod 8 = 0) (hy : y.tmod 8 = 0) (h : Xcv p x y = true) : ∃ e, Xdc p x y = some (e, true) ∧ Xnu e := by
 have hm : maxLen = 9223372036854775807 := rfl
 obtain ⟨k1, k2, k3⟩ := Xcj ok
 have h' := h
 unfold Xcv at h'
 rw [decide_eq_true_eq] at h'
 unfold Xdc
 rw [Xet ok hx hy h, Xae, Bool.not_true, Xaz]
 obtain ⟨o, e, o1, o2, o3, o4, o5, o6⟩ := Xc3 (f := Xcy p x y) 8 (fun i s => (y > 0 → s.1.length = i) ∧ (¬ y > 0 → s.1.length = 0) ∧ (x > 0 → s.2.length = i) ∧ (¬ x > 0 → s.2.length = 0) ∧ (∀ z ∈ s.1, 0 ≤ z ∧ z ≤ 255) ∧ (∀ z ∈ s.2, 0 ≤ z ∧ z ≤ 255)) (by
  intro i s hi ⟨g1, g2, g3, g4, g5, g6⟩
  obtain ⟨a, b⟩ := s
  simp only at g1 g2 g3 g4 g5 g6
  have d1 := Xmr p (x + i) (y - 1)
  have d2 := Xmr p (x - 1) (y + i)
  have st1 : ∃ a', (sel (decide (y > 0)) (bnd (Xd2 p (Xaa .i64 (x + (i : Int))) (Xaa .i64 (y - 1))) fun q16 => req ((a.length + ([q16]).length) * 8 ≤ 140737488355328 ∧ a.length + ([q16]).length ≤ maxLen) <| some (a ++ ([q16]))) (some a)) = some a' ∧ (y > 0 → a'.length = i + 1) ∧ (¬ y > 0 → a'.length = 0) ∧ (∀ z ∈ a', 0 ≤ z ∧ z ≤ 255) := by
   by_cases c : y > 0
   ·
    rw [Xck c, wkA (e := x + (i : Int)), wkA (e := y - 1), Xh3 ok, Xae, Xb4 (by simp only [List.length_singleton]; have := g1 c; omega)]
    refine ⟨_, rfl, fun _ => by simp; exact g1 c, fun hn => absurd c hn, fun z hz => ?_⟩
    rcases List.mem_append.1 hz with hz | hz
    ·
     exact g5 z hz
    ·
     rw [List.mem_singleton.1 hz]; exact d1
   ·
    rw [Xaw c]
    exact ⟨_, rfl, fun hn => absurd hn c, fun _ => g2 c, g5⟩
  obtain ⟨a', ea, a1, a2, a3⟩ := st1
  have st2 : ∃ b', (sel (decide (x > 0)) (bnd (Xd2 p (Xaa .i64 (x - 1)) (Xaa .i64 (y + (i : Int)))) fun q17 => req ((b.length + ([q17]).length) * 8 ≤ 140737488355328 ∧ b.length + ([q17]).length ≤ maxLen) <| some (a', (b ++ ([q17])))) (some (a', b))) = some (a', b') ∧ (x > 0 → b'.length = i + 1) ∧ (¬ x > 0 → b'.length = 0) ∧ (∀ z ∈ b', 0 ≤ z ∧ z ≤ 255) := by
   by_cases c : x > 0
   ·
    rw [Xck c, wkA (e := y + (i : Int)), wkA (e := x - 1), Xh3 ok, Xae, Xb4 (by simp only [List.length_singleton]; have := g3 c; omega)]
    refine ⟨_, rfl, fun _ => by simp; exact g3 c, fun hn => absurd c hn, fun z hz => ?_⟩
    rcases List.mem_append.1 hz with hz | hz
    ·
     exact g6 z hz
    ·
     rw [List.mem_singleton.1 hz]; exact d2
   ·
    rw [Xaw c]
    exact ⟨_, rfl, fun hn => absurd hn c, fun _ => g4 c, g6⟩
  obtain ⟨b', eb, b1, b2, b3⟩ := st2
  unfold Xcy
  simp only
  rw [syA, ea, Xae, eb, Xae, wkA (e := (i : Int) + 1)]
  exact ⟨(a', b'), rfl, a1, a2, b1, b2, a3, b3⟩) (by intro s; unfold Xcy; rw [Xaw (by simp)]) ([], []) ⟨fun _ => rfl, fun _ => rfl, fun _ => rfl, fun _ => rfl, fun z hz => by simp at hz, fun z hz => by simp at hz⟩
 rw [e, Xae, Xg3, Xae]
 have d3 := Xmr p (x - 1) (y - 1)
 have ha : o.1.length = 0 ∨ o.1.length = 8 := by
  by_cases c : y > 0
  ·
   exact Or.inr (o1 c)
  ·
   exact Or.inl (o2 c)
 have hb : o.2.length = 0 ∨ o.2.length = 8 := by
  by_cases c : x > 0
  ·
   exact Or.inr (o3 c)
  ·
   exact Or.inl (o4 c)
 cases hc : (decide (x > 0) && decide (y > 0)) with
 | true =>
  rw [Xa5, wkA (e := x - 1), wkA (e := y - 1), Xh3 ok, Xae, Xae]
  exact ⟨_, rfl, ha, hb, o5, o6, by simp only; omega, by simp only; omega⟩
 | false =>
  rw [Xaz, Xae]
  exact ⟨_, rfl, ha, hb, o5, o6, by simp only; omega, by simp only; omega⟩
theorem Xnp (l : List Int) (hl : l.length = 0 ∨ l.length = 8) (h : ∀ x ∈ l, 0 ≤ x ∧ x ≤ 255) : Xhe l = some true := by
 unfold Xhe
 have hc : (sel ((l.length : Int) != 0) (some ((l.length : Int) != 8)) (some false)) = some false := by
  rcases hl with e | e
  ·
   rw [e]; rfl
  ·
   rw [e]; rfl
 rw [hc, Xae, Xaz, Xr5 l.length (f := Xfp l) (by
  intro i hi
  have := h (l.getD i 0) (by rw [Xe2 l i hi]; exact List.getElem_mem _)
  unfold Xfp
  rw [syA, rqA, Xai, Xae, Int.toNat_natCast, decide_eq_true this, Bool.not_true, Xaz, wkA]
  rfl) (by unfold Xfp; rw [snA]), Xae]
theorem Xgw {e : Xft} (h : Xnu e) : Xhd e = some true := by
 obtain ⟨h1, h2, h3, h4, h5, h6⟩ := h
 unfold Xhd
 rw [Xnp _ h1 h3, Xae, Xa5, Xnp _ h2 h4, Xae, Xa5, Xai, Xae, decide_eq_true ⟨h5, h6⟩, Xae]
theorem Xmn (l : List Int) (k : Nat) (hk : k < 8) (hl : l.length = 0 ∨ l.length = 8) (h : ∀ x ∈ l, 0 ≤ x ∧ x ≤ 255) : ∃ x, Xb8 l k = some x ∧ 0 ≤ x ∧ x ≤ 255 := by
 unfold Xb8
 rcases hl with e | e
 ·
  rw [Xhy (by rw [e]; rfl)]; exact ⟨_, rfl, by omega, by omega⟩
 ·
  rw [Xd0 (by rw [e]; rfl), rqA, Int.toNat_natCast]
  exact ⟨_, rfl, h _ (by rw [Xe2 l k (by omega)]; exact List.getElem_mem _)⟩
theorem Xpq {e : Xft} (h : Xnu e) : ∃ x, Xg6 e = some x ∧ 0 ≤ x ∧ x ≤ 255 := by
 obtain ⟨h1, h2, h3, h4, _, _⟩ := h
 unfold Xg6
 rw [wkA (e := (e.Above.length : Int) + (e.Left.length : Int))]
 by_cases hz : (e.Above.length : Int) + (e.Left.length : Int) = 0
 ·
  rw [Xhy (by simpa using hz)]; exact ⟨_, rfl, by omega, by omega⟩
 ·
  rw [Xd0 (by simpa using hz), rqA, Xcq (by omega), wkA (e := ((e.Above.length : Int) + (e.Left.length : Int)) / 2)]
  obtain ⟨a, ea, a1, a2⟩ := Xk8 (f := Xex e) e.Above.length (fun i s => 0 ≤ s ∧ s ≤ ((e.Above.length : Int) + (e.Left.length : Int)) / 2 + 255 * i) (by
   intro i s hi ⟨g1, g2⟩
   have := h3 (e.Above.getD i 0) (by rw [Xe2 _ i hi]; exact List.getElem_mem _)
   unfold Xex
   simp only [Int.toNat_natCast]
   rw [syA, rqA, wkA (e := s + e.Above.getD i 0), wkA (e := (i : Int) + 1)]
   exact ⟨_, rfl, by omega, by omega⟩) (by intro s; unfold Xex; rw [Xaw (by simp)]) (((e.Above.length : Int) + (e.Left.length : Int)) / 2) ⟨by omega, by omega⟩
  obtain ⟨b, eb, b1, b2⟩ := Xk8 (f := Xey e) e.Left.length (fun i s => 0 ≤ s ∧ s ≤ ((e.Above.length : Int) + (e.Left.length : Int)) / 2 + 255 * e.Above.length + 255 * i) (by
   intro i s hi ⟨g1, g2⟩
   have := h4 (e.Left.getD i 0) (by rw [Xe2 _ i hi]; exact List.getElem_mem _)
   unfold Xey
   simp only [Int.toNat_natCast]
   rw [syA, rqA, wkA (e := s + e.Left.getD i 0), wkA (e := (i : Int) + 1)]
   exact ⟨_, rfl, by omega, by omega⟩) (by intro s; unfold Xey; rw [Xaw (by simp)]) a ⟨by omega, by omega⟩
  rw [ea, Xae, eb, Xae, Xb4 hz, Xcq b1]
  have hn : (e.Above.length : Int) + (e.Left.length : Int) = 8 ∨ (e.Above.length : Int) + (e.Left.length : Int) = 16 := by omega
  have hr : 0 ≤ b / ((e.Above.length : Int) + (e.Left.length : Int)) ∧ b / ((e.Above.length : Int) + (e.Left.length : Int)) ≤ 255 := by
   rcases hn with hn | hn <;> rw [hn] <;> omega
  rw [wkA]
  exact ⟨_, rfl, hr⟩
theorem Xh5 (m : Int) (hm0 : 0 ≤ m ∧ m ≤ 3) {e : Xft} (h : Xnu e) : ∃ g, Xcb m e = some g ∧ Xbg g = true := by
 have hm : maxLen = 9223372036854775807 := rfl
 have h' := h
 obtain ⟨h1, h2, h3, h4, h5, h6⟩ := h'
 obtain ⟨mid, em, m1, m2⟩ := Xpq h
 unfold Xcb
 rw [Xgw h, Xae, Xa5, Xai, Xae, decide_eq_true hm0, Bool.not_true, Xae, Xaz]
 have hc : ∃ v, sel (decide (e.Corner < 0)) (some (128 : Int)) (some e.Corner) = some v ∧ 0 ≤ v ∧ v ≤ 255 := by
  by_cases c : e.Corner < 0
  ·
   rw [Xck c]; exact ⟨_, rfl, by omega, by omega⟩
  ·
   rw [Xaw c]; exact ⟨_, rfl, by omega, by omega⟩
 obtain ⟨v, ev, v1, v2⟩ := hc
 rw [ev, Xae]
 obtain ⟨o, eo, o1, o2⟩ := Xc3 (f := Xcc m e v) 64 (fun i s => s.length = i ∧ ∀ x ∈ s, 0 ≤ x ∧ x ≤ 255) (by
  intro i s hi ⟨g1, g2⟩
  obtain ⟨a, ea, a1, a2⟩ := Xmn e.Above (i % 8) (by omega) h1 h3
  obtain ⟨b, eb, b1, b2⟩ := Xmn e.Left (i / 8) (by omega) h2 h4
  have br := Xkd (n := b + a - v) (a := 0) (b := 255) (by omega)
  have put : ∀ z : Int, 0 ≤ z ∧ z ≤ 255 → (s ++ [z]).length = i + 1 ∧ ∀ x ∈ s ++ [z], 0 ≤ x ∧ x ≤ 255 := by
   intro z hz
   refine ⟨by simp; omega, fun x hx => ?_⟩
   rcases List.mem_append.1 hx with hx | hx
   ·
    exact g2 x hx
   ·
    rw [List.mem_singleton.1 hx]; exact hz
  unfold Xcc
  simp only
  rw [syA, rqA, Xjg (by omega), show (i : Int) % 8 = ((i % 8 : Nat) : Int) by omega, ea, Xae, rqA, Xcq (by omega), wkA (e := (i : Int) / 8), show (i : Int) / 8 = ((i / 8 : Nat) : Int) by omega, eb, Xae, wkA (e := (i : Int) + 1), em]
  cases (m == 0) with
  | true =>
   rw [Xa5, Xae, Xb4 (by simp only [List.length_singleton]; omega), Xae]
   exact ⟨_, rfl, put _ ⟨m1, m2⟩⟩
  | false =>
   rw [Xaz]
   cases (m == 1) with
   | true =>
    rw [Xa5, Xb4 (by simp only [List.length_singleton]; omega), Xae]
    exact ⟨_, rfl, put _ ⟨a1, a2⟩⟩
   | false =>
    rw [Xaz]
    cases (m == 2) with
    | true =>
     rw [Xa5, Xb4 (by simp only [List.length_singleton]; omega), Xae]
     exact ⟨_, rfl, put _ ⟨b1, b2⟩⟩
    | false =>
     rw [Xaz, wkA (e := b + a), wkA (e := b + a - v), Xd1, Xae, Xb4 (by simp only [List.length_singleton]; omega), Xae]
     exact ⟨_, rfl, put _ br⟩) (by intro s; unfold Xcc; rw [Xaw (by simp)]) [] ⟨rfl, fun x hx => by simp at hx⟩
 exact ⟨o, (Xly eo).trans rfl, Yej o1 o2⟩
theorem Yg1 {l : List Int} (h : Xbg l = true) : l.length = 64 ∧ inB 1000 l := by
 simp only [Xbg, Bool.and_eq_true, decide_eq_true_eq] at h
 refine ⟨h.1, fun x hx => ?_⟩
 have := List.all_eq_true.1 h.2 x hx
 simp only [Yf2, decide_eq_true_eq] at this
 omega
theorem Xm5 {a b : List Int} (ha : Xbg a = true) (hb : Xbg b = true) : Xki a b = some (Xkk a b 64) := by
 have la := Yg1 ha
 have lb := Yg1 hb
 unfold Xki
 rw [Xbv a 64 1000 (by omega) (by omega) (by omega) la.2, Xae, Xa5, Xbv b 64 1000 (by omega) (by omega) (by omega) lb.2, Xae, Bool.not_true, Xae, Xaz]
 have key : ∀ i : Nat, i ≤ 64 → loop (Xh4 a b) (Xkk a b i, (i : Int)) = some (Xkk a b 64) := by
  refine Xkj _ ?_ ?_
  ·
   exact Xm1 (by unfold Xh4; rw [Xaw (by simp)])
  ·
   intro i hi ih
   refine lgo (y := (Xkk a b (i + 1), ((i + 1 : Nat) : Int))) ?_ ih
   have p := (Xbh ha).2 i hi
   have q := (Xbh hb).2 i hi
   have g := Xg7 ha hb i (by omega)
   have ab : 0 ≤ Xuo (a.getD i 0 - b.getD i 0) ∧ Xuo (a.getD i 0 - b.getD i 0) ≤ 255 := by unfold Xuo; split <;> omega
   unfold Xh4
   simp only [Int.toNat_natCast]
   rw [syA, rqA, rqA, wkA (e := a.getD i 0 - b.getD i 0), Xj4 _ (by omega), Xae, wkA (e := Xkk a b i + Xuo (a.getD i 0 - b.getD i 0)), wkA (e := (i : Int) + 1)]
   rfl
 exact (Xly (key 0 (by omega))).trans rfl
theorem Yba (m : Int) (h : 0 ≤ m ∧ m ≤ 3) : ∃ s, Xfn m = some s ∧ 0 ≤ s ∧ s ≤ 39 := by
 have := Yj9 m.toNat (by omega)
 unfold Xfn Xmh
 rw [Xai, Xae, decide_eq_true (by omega), Bool.not_true, Xaz, show m = ((m.toNat : Nat) : Int) by omega, Xm6 _ (by omega), Xae, Xae]
 refine ⟨_, rfl, ?_⟩
 rw [strOfNums_size]; omega
theorem Xt0 {w : List Int} (hw : Xbg w = true) {e : Xft} (h : Xnu e) : ∃ m c, Xdi w e = some (m, c) ∧ 0 ≤ m ∧ m ≤ 3 := by
 unfold Xdi
 rw [Xgw h, Xae, Xa5, Xes w hw, Xae, Bool.not_true, Xae, Xaz]
 obtain ⟨o, eo, o1, o2⟩ := Yde (f := Xb5 w e) (fun v => (0 ≤ v.1 ∧ v.1 ≤ 3) ∧ 0 ≤ v.2.2 ∧ v.2.2 ≤ 4) (fun v => (4 - v.2.2).toNat) (fun _ o => 0 ≤ o.1 ∧ o.1 ≤ 3) (by
  intro ⟨m, c, i⟩ ⟨g1, g2, g3⟩
  simp only at g1 g2 g3
  unfold Xb5
  simp only
  by_cases hi : i < 4
  ·
   obtain ⟨g, eg, hg⟩ := Xh5 i ⟨g2, by omega⟩ h
   obtain ⟨s, es, s1, s2⟩ := Yba i ⟨g2, by omega⟩
   rw [Xck hi, eg, Xae, Xm5 hw hg, Xae, es, Xae, Yjx, Xae, wkA (e := i + 1)]
   cases (decide (c < 0) || decide (Xaa IntKind.i64 (Xkk w g 64 + s) < c)) with
   | true => exact .inr ⟨_, rfl, ⟨by simp only; omega, by simp only; omega, by simp only; omega⟩, by simp only; omega, fun _ h => h⟩
   | false => exact .inr ⟨_, rfl, ⟨by simp only; omega, by simp only; omega, by simp only; omega⟩, by simp only; omega, fun _ h => h⟩
  ·
   rw [Xaw hi]
   exact .inl ⟨_, rfl, g1⟩) (0, -1, 0) ⟨by simp, by simp, by simp⟩
 exact ⟨o.1, o.2, (Xly eo).trans rfl, o1, o2⟩
theorem Xpk (d : Int) (h : -500000 ≤ d ∧ d ≤ 500000) : Xi1 d = some (Yis d) := by
 unfold Xi1 Xoy Yis
 rw [Xai, Xae, decide_eq_true h, Bool.not_true, Xaz, Ydz d h, Xae, Xae, strOfNums_size]
theorem Yio {m : Int} {l : List Int} (hm : 0 ≤ m ∧ m ≤ 3) (hl : Yao l = true) : Yb5 ⟨2, m, 0, 0, l⟩ = true := by
 unfold Yb5
 simp only
 rw [if_neg (by omega), if_neg (by omega), if_pos trivial, hl, decide_eq_true hm]
 rfl
theorem Yj2 {dx dy : Int} {l : List Int} (hx : -16 ≤ dx ∧ dx ≤ 16) (hy : -16 ≤ dy ∧ dy ≤ 16) (hl : Yao l = true) : Yb5 ⟨1, 0, dx, dy, l⟩ = true := by
 unfold Yb5
 simp only
 rw [if_neg (by omega), if_pos trivial, hl, decide_eq_true hx, decide_eq_true hy]
 rfl
def Ygc (p q : Pic) : Bool := Xe0 p && (Xe0 q && ((p.Wide == q.Wide) && (p.High == q.High)))
theorem Xom (p q : Pic) : Xhf p q = some (Ygc p q) := by
 unfold Xhf Ygc
 rw [Xek, Xae, Xek, Xae]
 simp only [Xg3, Xae]
theorem Ygd {p q : Pic} (h : Ygc p q = true) : Xe0 q = true ∧ q.Wide = p.Wide ∧ q.High = p.High := by
 unfold Ygc at h
 simp only [Bool.and_eq_true, beq_iff_eq] at h
 exact ⟨h.2.1, h.2.2.1.symm, h.2.2.2.symm⟩
theorem Yk0 {p q : Pic} (h1 : Xe0 p = true) (h2 : Xe0 q = true) (h3 : q.Wide = p.Wide) (h4 : q.High = p.High) : Ygc p q = true := by
 unfold Ygc
 simp only [Bool.and_eq_true, beq_iff_eq]
 exact ⟨h1, h2, h3.symm, h4.symm⟩
theorem Yc5 {V O : Type} {f g : V → Option (Lp V O)} (I : V → Prop) (h : ∀ v, I v → f v = g v) (hI : ∀ v v', I v → g v = some (.go v') → I v') : ∀ (k : Nat) (v : V), I v → it f k v = it g k v
 | 0, _, _ => rfl
 | k + 1, v, hv => by
  rw [it, it, h v hv]
  cases e : g v with
  | none => rfl
  | some s =>
   cases s with
   | go y => exact Yc5 I h hI k y (hI v y hv e)
   | done o => rfl
theorem Xiw {V O : Type} {f g : V → Option (Lp V O)} (I : V → Prop) (h : ∀ v, I v → f v = g v) (hI : ∀ v v', I v → g v = some (.go v') → I v') {v : V} (hv : I v) : loop f v = loop g v := by
 apply Option.ext
 intro o
 rw [Xga, Xga]
 exact ⟨fun ⟨k, hk⟩ => ⟨k, by rw [← Yc5 I h hI k v hv]; exact hk⟩, fun ⟨k, hk⟩ => ⟨k, by rw [Yc5 I h hI k v hv]; exact hk⟩⟩
theorem Ygg {V O : Type} {f : V → Option (Lp V O)} {v : V} {o : O} (k : Nat) (h : it f k v = some o) : loop f v = some o := Xga.2 ⟨k, h⟩
theorem Ydb {a b : List Int} {n : Nat} (ha : a.length = n) (hb : b.length = n) (h : ∀ i : Nat, i < n → a.getD i 0 = b.getD i 0) : a = b := by
 apply List.ext_getElem (by omega)
 intro i h1 h2
 have := h i (by omega)
 rwa [Xe2 a i h1, Xe2 b i h2] at this
theorem Xi6 {n : Nat} (g : Nat → Int) {i : Nat} (h : i < n) : ((List.range n).map g).getD i 0 = g i := by
 rw [Xe2 _ i (by simpa using h)]; simp
theorem Ykp {α : Type} {f : Int × List α → Option (Lp (Int × List α) (List α))} (n : Nat) (g : Nat → α) (a : List α) (hs : ∀ i : Nat, i < n → f ((i : Int), a ++ (List.range i).map g) = some (.go (((i + 1 : Nat) : Int), a ++ (List.range i).map g ++ [g i]))) (he : f ((n : Int), a ++ (List.range n).map g) = some (.done (a ++ (List.range n).map g))) : loop f (0, a) = some (a ++ (List.range n).map g) := by
 have key : ∀ i : Nat, i ≤ n → loop f ((i : Int), a ++ (List.range i).map g) = some (a ++ (List.range n).map g) := by
  refine Xkj _ (Xm1 he) ?_
  intro i hi ih
  refine lgo (hs i hi) ?_
  rw [List.append_assoc, show (List.range i).map g ++ [g i] = (List.range (i + 1)).map g by simp [List.range_succ]]
  exact ih
 have := key 0 (by omega)
 simpa using this
theorem Xlk {S : Type} {f : Int × S → Option (Lp (Int × S) S)} (n : Nat) (I : Nat → S → Prop) (hs : ∀ (i : Nat) (l : S), i < n → I i l → ∃ l', f ((i : Int), l) = some (.go (((i + 1 : Nat) : Int), l')) ∧ I (i + 1) l') (he : ∀ l, I n l → f ((n : Int), l) = some (.done l)) (l0 : S) (h0 : I 0 l0) : ∃ o, loop f (0, l0) = some o ∧ I n o := by
 have key : ∀ i : Nat, i ≤ n → ∀ l, I i l → ∃ o, loop f ((i : Int), l) = some o ∧ I n o := by
  refine Xkj _ ?_ ?_
  ·
   intro l h; exact ⟨l, Xm1 (he l h), h⟩
  ·
   intro i hi ih l h
   obtain ⟨l', e, h'⟩ := hs i l hi h
   obtain ⟨o, e2, h2⟩ := ih l' h'
   exact ⟨o, lgo e e2, h2⟩
 exact key 0 (by omega) l0 h0
theorem Yf5 : Xkg = Xbx := rfl
theorem Ya6 (qp : Int) (h0 : 0 ≤ qp ∧ qp ≤ 40) : Xel qp = some (Xk5 qp) := by
 have h := Yj3 ⟨qp.toNat, by omega⟩
 simp only at h
 rw [show ((qp.toNat : Nat) : Int) = qp by omega] at h
 unfold Xel
 rw [Xai, Xae, decide_eq_true (by omega), Bool.not_true, Xaz, rqA]
 have hb : (sel ((qp.tmod 6) == 0) (some (10 : Int)) (sel ((qp.tmod 6) == 1) (some 11) (sel ((qp.tmod 6) == 2) (some 13) (sel ((qp.tmod 6) == 3) (some 14) (sel ((qp.tmod 6) == 4) (some 16) (some 18)))))) = some (Xm7 qp) := by
  unfold Xm7
  simp only [Ydo, beq_iff_eq]
  repeat' split
  all_goals rfl
 rw [hb, Xae]
 unfold Xk5 at h ⊢
 cases e : it (Xgq qp) 10 (Xm7 qp, 0) with
 | none => rw [e] at h; simp only at h; omega
 | some q => rw [Xga.2 ⟨10, e⟩, Xae]
theorem Yc1 : ∀ q : Fin 41, Xg2 (q.val : Int) = some (Xk5 (q.val : Int)) := by decide +kernel
theorem Xz9 (qp : Int) (h0 : 0 ≤ qp ∧ qp ≤ 40) : Xg2 qp = some (Xk5 qp) := by
 have := Yc1 ⟨qp.toNat, by omega⟩
 simp only at this
 rwa [show ((qp.toNat : Nat) : Int) = qp by omega] at this
theorem Xun (qp : Int) (h0 : 0 ≤ qp ∧ qp ≤ 40) : Xg2 qp = Xel qp := by rw [Xz9 qp h0, Ya6 qp h0]
theorem Xpm (u v : Nat) (hu : u < 8) (hv : v < 8) : Xfl u v = some (Xhz u v) := by
 have h := Yjz ⟨u, hu⟩ ⟨v, hv⟩
 simp only at h
 unfold Xfl
 rw [Xai, Xae, decide_eq_true (by omega), Xa5, Xai, Xae, decide_eq_true (by omega), Bool.not_true, Xae, Xaz]
 unfold Xhz at h ⊢
 cases e : it Xgp 10 (1, (IntKind.wrap .i64 (BitVec.ofInt (IntKind.bits .i64) (u : Int) &&& BitVec.ofInt (IntKind.bits .i64) (v : Int)).toNat)) with
 | none => rw [e] at h; simp only at h; omega
 | some q => rw [Xga.2 ⟨10, e⟩, Xae]
theorem Ycw : ∀ u v : Fin 8, Xin (u.val : Int) (v.val : Int) = some (Xhz (u.val : Int) (v.val : Int)) := by decide +kernel
theorem Xum (u v : Nat) (hu : u < 8) (hv : v < 8) : Xin u v = some (Xhz u v) := Ycw ⟨u, hu⟩ ⟨v, hv⟩
def Ydn (qp p : Int) : Option Int :=
 bnd (Xg4 p) fun q1 => bnd (Xay q1 10 16 13) fun a1 => bnd (Xay q1 11 18 14) fun a2 => bnd (Xay q1 13 20 16) fun a3 => bnd (Xay q1 14 23 18) fun a4 => bnd (Xay q1 16 25 20) fun a5 => bnd (Xay q1 18 29 23) fun a6 =>
 it (Xc0 qp) 10 ((sel (qp.tmod 6 == 0) a1 (sel (qp.tmod 6 == 1) a2 (sel (qp.tmod 6 == 2) a3 (sel (qp.tmod 6 == 3) a4 (sel (qp.tmod 6 == 4) a5 (sel (qp.tmod 6 == 5) a6 0)))))), 0)
theorem Yjt : ∀ q : Fin 41, ∀ p : Fin 16, (Ydn (q.val : Int) (p.val : Int)).isSome = true ∧ Xji (q.val : Int) (p.val : Int) = Ydn (q.val : Int) (p.val : Int) := by decide +kernel
theorem Yb9 (qp p : Int) (h0 : 0 ≤ qp ∧ qp ≤ 40) (hp : 0 ≤ p ∧ p ≤ 15) : Xji qp p = Xfj qp p := by
 have := Yjt ⟨qp.toNat, by omega⟩ ⟨p.toNat, by omega⟩
 simp only at this
 rw [show ((qp.toNat : Nat) : Int) = qp by omega, show ((p.toNat : Nat) : Int) = p by omega] at this
 obtain ⟨h1, h2⟩ := this
 rw [h2]
 cases e : Ydn qp p with
 | none => rw [e] at h1; cases h1
 | some o =>
  unfold Ydn at e
  unfold Xfj
  obtain ⟨k, ek, k0, k1⟩ := Xlv p hp
  rw [ek, Xae] at e ⊢
  rw [Xai, Xae, decide_eq_true h0, Xa5, decide_eq_false (by omega), Xae, Xaz, rqA]
  obtain ⟨a1, e1, b1⟩ := Xax k 10 16 13
  obtain ⟨a2, e2, b2⟩ := Xax k 11 18 14
  obtain ⟨a3, e3, b3⟩ := Xax k 13 20 16
  obtain ⟨a4, e4, b4⟩ := Xax k 14 23 18
  obtain ⟨a5, e5, b5⟩ := Xax k 16 25 20
  obtain ⟨a6, e6, b6⟩ := Xax k 18 29 23
  rw [e1, e2, e3, e4, e5, e6] at e ⊢
  simp only [Xae, Yho] at e ⊢
  rw [Ygg 10 e, Xae]
def Xme (n : Int) (v16 : Int × List Int) : Option (Lp (Int × List Int) (List Int)) :=
 sel (decide (v16.1 ≤ (Xaa .i64 ((Xaa .i64 (2 * n)) - 2)))) (
 bnd (it (Xhr n v16) 20 (0, v16.2)) fun v42 =>
 some (.go (Xaa .i64 (v16.1 + 1), v42))) (
 some (.done v16.2))
theorem Yfm {n : Int} {v : Int × List Int} {x : Lp (Int × List Int) (List Int)} (h : Xme n v = some x) : Xe1 n v = some x := by
 unfold Xme at h
 unfold Xe1
 rcases Xgv h with ⟨hb, h⟩ | ⟨hb, h⟩
 ·
  rw [hb, Xa5]
  obtain ⟨a, h1, h2⟩ := Xa4 h
  rw [Xga.2 ⟨20, h1⟩, Xae]
  exact h2
 ·
  rw [hb, Xaz]; exact h
def Xyt (n : Int) : List Int := (it (Xme n) 20 (0, [])).getD []
theorem Ymv : (it (Xme 4) 20 (0, [])).isSome = true ∧ (Xyt 4).length = 16 := by decide +kernel
theorem Ymw : (it (Xme 8) 20 (0, [])).isSome = true ∧ (Xyt 8).length = 64 := by decide +kernel
theorem Yju : ∀ i : Fin 16, (Xyt 4).getD i.val 0 = Xeq 4 (i.val : Int) := by decide +kernel
theorem Yjv : ∀ i : Fin 64, (Xyt 8).getD i.val 0 = Xeq 8 (i.val : Int) := by decide +kernel
theorem Xl4 (n : Int) (hn : n = 4 ∨ n = 8) : Xeu n = some (Xyt n) ∧ ((Xyt n).length : Int) = n * n ∧ ∀ i : Nat, (i : Int) < n * n → (Xyt n).getD i 0 = Xeq n i := by
 have h : (it (Xme n) 20 (0, [])).isSome = true ∧ ((Xyt n).length : Int) = n * n := by
  rcases hn with rfl | rfl
  ·
   have := Ymv; exact ⟨this.1, by omega⟩
  ·
   have := Ymw; exact ⟨this.1, by omega⟩
 refine ⟨?_, h.2, fun i hi => ?_⟩
 ·
  obtain ⟨o, ho⟩ := Option.isSome_iff_exists.1 h.1
  have hl := Ygg 20 (Ykz (fun v y => Yfm (n := n)) 20 _ ho)
  unfold Xeu
  rw [hl, Xae]
  unfold Xyt; rw [ho]; rfl
 ·
  rcases hn with rfl | rfl
  ·
   exact Yju ⟨i, by omega⟩
  ·
   exact Yjv ⟨i, by omega⟩
theorem Xns (n : Int) (hn : n = 4 ∨ n = 8) (l : List Int) (hl : (l.length : Int) = n * n) : Xdg n l = Xb7 n l := by
 obtain ⟨e, h1, h2⟩ := Xl4 n hn
 have hw : Xaa .i64 (n * n) = n * n := by rcases hn with rfl | rfl <;> exact wkA
 have hn2 : n * n ≤ 64 := by rcases hn with rfl | rfl <;> omega
 unfold Xdg Xb7
 rw [e]
 have : loop (Xfx l (Xyt n)) (0, List.replicate (l.length : Int).toNat 0) = loop (Xbn n l) (0, List.replicate (l.length : Int).toNat 0) := by
  refine Xiw (fun v => (∃ i : Nat, v.1 = (i : Int) ∧ i ≤ l.length) ∧ v.2.length = l.length) ?_ ?_ ⟨⟨0, rfl, by omega⟩, by simp⟩
  ·
   intro ⟨i, s⟩ ⟨⟨k, ek, hk⟩, hs⟩
   simp only at hs ek
   subst ek
   unfold Xfx Xbn
   simp only [Int.toNat_natCast]
   rw [hw]
   by_cases hi : (k : Int) < n * n
   ·
    have hp := Xfe n hn k hi
    have h3 := h2 k hi
    simp only [h3]
    rw [syA, Xck hi, Xew n hn k hi, Xae, rqA, rqA]
   ·
    rw [snA, Xaw hi]
  ·
   intro ⟨i, s⟩ v' ⟨⟨k, ek, hk⟩, hs⟩ he
   simp only at hs ek
   subst ek
   unfold Xbn at he
   simp only [Int.toNat_natCast] at he
   rw [hw] at he
   by_cases hi : (k : Int) < n * n
   ·
    have hp := Xfe n hn k hi
    rw [Xck hi, Xew n hn k hi, Xae, rqA, rqA, rqA, wkA] at he
    cases he
    exact ⟨⟨k + 1, rfl, by omega⟩, by rw [List.length_set]; exact hs⟩
   ·
    rw [Xaw hi] at he; cases he
 simp only [Xae, this]
theorem Xmq (n : Int) (hn : n = 4 ∨ n = 8) (l : List Int) (hl : (l.length : Int) = n * n) : Xe6 n l = Xdd n l := by
 have hm : maxLen = 9223372036854775807 := rfl
 obtain ⟨e, h1, h2⟩ := Xl4 n hn
 have hw : Xaa .i64 (n * n) = n * n := by rcases hn with rfl | rfl <;> exact wkA
 have hn2 : n * n ≤ 64 := by rcases hn with rfl | rfl <;> omega
 unfold Xe6 Xdd
 rw [e]
 have : loop (Xhn l (Xyt n)) (0, ([] : List Int)) = loop (Xce n l) (0, ([] : List Int)) := by
  refine Xiw (fun v => ∃ i : Nat, v.1 = (i : Int) ∧ i ≤ l.length) ?_ ?_ ⟨0, rfl, by omega⟩
  ·
   intro ⟨i, s⟩ ⟨k, ek, hk⟩
   simp only at ek
   subst ek
   unfold Xhn Xce
   simp only [Int.toNat_natCast]
   rw [hw]
   by_cases hi : (k : Int) < n * n
   ·
    have hp := Xfe n hn k hi
    have h3 := h2 k hi
    simp only [h3]
    rw [syA, Xck hi, Xew n hn k hi, Xae, rqA, rqA]
   ·
    rw [snA, Xaw hi]
  ·
   intro ⟨i, s⟩ v' ⟨k, ek, hk⟩ he
   simp only at ek
   subst ek
   unfold Xce at he
   simp only [Int.toNat_natCast] at he
   rw [hw] at he
   by_cases hi : (k : Int) < n * n
   ·
    have hp := Xfe n hn k hi
    rw [Xck hi, Xew n hn k hi, Xae, rqA] at he
    obtain ⟨_, he⟩ := Xau he
    rw [wkA] at he
    cases he
    exact ⟨k + 1, rfl, by omega⟩
   ·
    rw [Xaw hi] at he; cases he
 simp only [Xae, this]
def Yd6 (t : Nat → Int) : Nat → Int
 | 0 => 0
 | k + 1 => Xaa .i64 (Yd6 t k + t k)
def Yms (p : List Int) (i v k : Nat) : Int := Xaa .i64 (Xhz v k * p.getD (8 * i + k) 0)
def Yme (p : List Int) (u v k : Nat) : Int := Xaa .i64 (Xhz u k * p.getD (8 * k + v) 0)
def Xnw (p : List Int) : List Int := (List.range 64).map fun j => Yd6 (Yms p (j / 8) (j % 8)) 8
def Yiq (p : List Int) : List Int := (List.range 64).map fun j => Yd6 (Yme (Xnw p) (j / 8) (j % 8)) 8
theorem Yer (p : List Int) : (Xnw p).length = 64 := by simp [Xnw]
theorem Yj5 (p : List Int) : (Yiq p).length = 64 := by simp [Yiq]
theorem Yfu {f1 : Int × List Int → Option (Lp (Int × List Int) (List Int))} {f2 : Int × List Int → Int × List Int → Option (Lp (Int × List Int) (List Int))} {f3 : Int × List Int → Int × List Int → Int × List Int → Option (Lp (Int × List Int) (List Int))} (t : Nat → Nat → Nat → Int)
  (h1 : ∀ v, f1 v = sel (decide (v.1 < 8)) (bnd (loop (f2 v) (0, v.2)) fun w => some (.go (Xaa .i64 (v.1 + 1), w))) (some (.done v.2)))
  (h2 : ∀ v w, f2 v w = sel (decide (w.1 < 8)) (bnd (loop (f3 v w) (0, w.2)) fun x => some (.go (Xaa .i64 (w.1 + 1), x))) (some (.done w.2)))
  (h3 : ∀ (i v k : Nat) (a b s : List Int), i < 8 → v < 8 → k < 8 → s.length = 64 → f3 ((i : Int), a) ((v : Int), b) ((k : Int), s) = some (.go (((k + 1 : Nat) : Int), s.set (8 * i + v) (Xaa .i64 (s.getD (8 * i + v) 0 + t i v k)))))
  (h4 : ∀ (i v : Nat) (a b s : List Int), f3 ((i : Int), a) ((v : Int), b) (8, s) = some (.done s)) : loop f1 (0, List.replicate 64 0) = some ((List.range 64).map fun j => Yd6 (t (j / 8) (j % 8)) 8) := by
 obtain ⟨o, e, o1, o2, _⟩ := Xlk (f := f1) 8 (fun i s => s.length = 64 ∧ (∀ j, j < 8 * i → s.getD j 0 = Yd6 (t (j / 8) (j % 8)) 8) ∧ ∀ j, 8 * i ≤ j → s.getD j 0 = 0) (by
  intro i s hi ⟨g1, g2, g3⟩
  obtain ⟨r, er, r1, r2, r3⟩ := Xlk (f := f2 ((i : Int), s)) 8 (fun v s => s.length = 64 ∧ (∀ j, j < 8 * i + v → s.getD j 0 = Yd6 (t (j / 8) (j % 8)) 8) ∧ ∀ j, 8 * i + v ≤ j → s.getD j 0 = 0) (by
   intro v s' hv ⟨k1, k2, k3⟩
   obtain ⟨q, eq, q1, q2, q3⟩ := Xlk (f := f3 ((i : Int), s) ((v : Int), s')) 8 (fun k s => s.length = 64 ∧ (∀ j, j ≠ 8 * i + v → s.getD j 0 = s'.getD j 0) ∧ s.getD (8 * i + v) 0 = Yd6 (t i v) k) (by
    intro k s'' hk ⟨m1, m2, m3⟩
    refine ⟨_, h3 i v k s s' s'' hi hv hk m1, by rw [List.length_set]; exact m1, fun j hj => ?_, ?_⟩
    ·
     rw [Xgz _ _ _ _ (by omega), if_neg (fun h => hj h.symm)]; exact m2 j hj
    ·
     rw [Xgz _ _ _ _ (by omega), if_pos rfl, m3]; rfl) (fun z _ => h4 i v s s' z) s' ⟨k1, fun _ _ => rfl, by rw [k3 _ (Nat.le_refl _)]; rfl⟩
   refine ⟨q, by rw [h2, Xck (by simp only; omega), eq, Xae, wk (by simp only; omega) (by simp only; omega)]; rfl, q1, fun j hj => ?_, fun j hj => ?_⟩
   ·
    by_cases h : j = 8 * i + v
    ·
     rw [h, q3, show (8 * i + v) / 8 = i by omega, show (8 * i + v) % 8 = v by omega]
    ·
     rw [q2 j h]; exact k2 j (by omega)
   ·
    rw [q2 j (by omega)]; exact k3 j (by omega)) (fun z _ => by rw [h2, Xaw (by simp)]) s ⟨g1, g2, g3⟩
  refine ⟨r, by rw [h1, Xck (by simp only; omega), er, Xae, wk (by simp only; omega) (by simp only; omega)]; rfl, r1, fun j hj => r2 j (by omega), fun j hj => r3 j (by omega)⟩) (fun z _ => by rw [h1, Xaw (by simp)]) (List.replicate 64 0) ⟨by simp, fun j hj => by omega, fun j _ => by
   by_cases h : j < 64
   ·
    rw [Xe2 _ _ (by rw [List.length_replicate]; exact h)]; exact List.getElem_replicate ..
   ·
    rw [List.getD_eq_getElem?_getD, List.getElem?_eq_none (by rw [List.length_replicate]; omega)]; rfl⟩
 rw [e]
 congr 1
 exact Ydb o1 (by simp) fun j hj => by rw [o2 j (by omega), Xi6 (fun j => Yd6 (t (j / 8) (j % 8)) 8) hj]
theorem Xus (p : List Int) (hp : p.length = 64) : Xl6 p = some (Yiq p) := by
 unfold Xl6
 rw [rqA]
 have e1 : loop (Xmz p) (0, List.replicate (64 : Int).toNat 0) = some (Xnw p) :=
  Yfu (f2 := Xm0 p) (f3 := Xht p) (fun i v k => Yms p i v k) (fun _ => rfl) (fun _ _ => rfl) (fun i v k a b s hi hv hk hs => by
   unfold Xht
   simp only
   rw [syA, wkA (e := 8 * (i : Int)), wkA (e := 8 * (i : Int) + (v : Int)), wkA (e := 8 * (i : Int) + (k : Int)), rqA, rqA, Xum v k hv hk, Xae, rqA, rqA, rqA, wkA (e := (k : Int) + 1), show (8 * (i : Int) + (v : Int)).toNat = 8 * i + v by omega, show (8 * (i : Int) + (k : Int)).toNat = 8 * i + k by omega]
   rfl) (fun i v a b s => by unfold Xht; rw [Xaw (by simp)])
 have e2 : loop (Xlm (Xnw p)) (0, List.replicate (64 : Int).toNat 0) = some (Yiq p) :=
  Yfu (f2 := Xln (Xnw p)) (f3 := Xgk (Xnw p)) (fun i v k => Yme (Xnw p) i v k) (fun _ => rfl) (fun _ _ => rfl) (fun i v k a b s hi hv hk hs => by
   have hl := Yer p
   unfold Xgk
   simp only
   rw [syA, wkA (e := 8 * (i : Int)), wkA (e := 8 * (i : Int) + (v : Int)), wkA (e := 8 * (k : Int)), wkA (e := 8 * (k : Int) + (v : Int)), rqA, rqA, Xum i k hi hk, Xae, rqA, rqA, rqA, rqA, wkA (e := (k : Int) + 1), show (8 * (i : Int) + (v : Int)).toNat = 8 * i + v by omega, show (8 * (k : Int) + (v : Int)).toNat = 8 * k + v by omega]
   rfl) (fun i v a b s => by unfold Xgk; rw [Xaw (by simp)])
 rw [e1, Xae, rqA, e2, Xae]
theorem Ybj (p : List Int) (hp : p.length = 64) (i v : Nat) (hi : i < 8) (hv : v < 8) : Xg5 p i v = some (Yd6 (Yms p i v) 8) := by
 obtain ⟨o, e, h⟩ := Xk8 (f := Xct p i v) 8 (fun k s => s = Yd6 (Yms p i v) k) (by
  intro k s hk g
  subst g
  unfold Xct
  simp only
  rw [syA, wkA (e := 8 * (i : Int)), wkA (e := 8 * (i : Int) + (k : Int)), rqA, Xpm v k hv hk, Xae, wkA (e := (k : Int) + 1), show (8 * (i : Int) + (k : Int)).toNat = 8 * i + k by omega, Int.mul_comm (p.getD _ _)]
  exact ⟨_, rfl, rfl⟩) (by intro s; unfold Xct; rw [Xaw (by simp)]) 0 rfl
 unfold Xg5
 rw [e, Xae, h]
theorem Xoi (p : List Int) (hp : p.length = 64) : Xeb p = some (Yiq p) := by
 have hm : maxLen = 9223372036854775807 := rfl
 unfold Xeb
 obtain ⟨o, e, ho⟩ := Xc3 (f := Xby p) 8 (fun i s => s = (List.range (8 * i)).map fun j => Yd6 (Yms p (j / 8) (j % 8)) 8) (by
  intro i s hi g
  subst g
  obtain ⟨r, er, hr⟩ := Xc3 (f := Xbz p ((i : Int), (List.range (8 * i)).map fun j => Yd6 (Yms p (j / 8) (j % 8)) 8)) 8 (fun v s => s = (List.range (8 * i + v)).map fun j => Yd6 (Yms p (j / 8) (j % 8)) 8) (by
   intro v s hv g
   subst g
   unfold Xbz
   simp only
   rw [syA, Ybj p hp i v hi hv, Xae, Xb4 (by simp only [List.length_singleton, List.length_map, List.length_range]; omega), wkA (e := (v : Int) + 1)]
   refine ⟨_, rfl, ?_⟩
   rw [show 8 * i + (v + 1) = (8 * i + v) + 1 by omega, List.range_succ, List.map_append, List.map_singleton, show (8 * i + v) / 8 = i by omega, show (8 * i + v) % 8 = v by omega]) (by intro s; unfold Xbz; rw [Xaw (by simp)]) _ rfl
  rw [Nat.add_zero] at er
  unfold Xby
  simp only
  rw [syA, er, Xae, wkA (e := (i : Int) + 1)]
  exact ⟨_, rfl, by rw [hr, show 8 * (i + 1) = 8 * i + 8 by omega]⟩) (by intro s; unfold Xby; rw [Xaw (by simp)]) [] rfl
 have ho' : o = Xnw p := by rw [ho]; rfl
 rw [e, Xae, ho']
 obtain ⟨o2, e2, ho2⟩ := Xc3 (f := Xbo (Xnw p)) 8 (fun i s => s = (List.range (8 * i)).map fun j => Yd6 (Yme (Xnw p) (j / 8) (j % 8)) 8) (by
  intro i s hi g
  subst g
  obtain ⟨r, er, hr⟩ := Xc3 (f := Xbp (Xnw p) ((i : Int), (List.range (8 * i)).map fun j => Yd6 (Yme (Xnw p) (j / 8) (j % 8)) 8)) 8 (fun v s => s = (List.range (8 * i + v)).map fun j => Yd6 (Yme (Xnw p) (j / 8) (j % 8)) 8) (by
   intro v s hv g
   obtain ⟨c, ec, hc⟩ := Xk8 (f := Xbq (Xnw p) ((i : Int), (List.range (8 * i)).map fun j => Yd6 (Yme (Xnw p) (j / 8) (j % 8)) 8) ((v : Int), s)) 8 (fun k x => x = Yd6 (Yme (Xnw p) i v) k) (by
    intro k x hk g
    subst g
    have hl := Yer p
    unfold Xbq
    simp only
    rw [syA, Xpm i k hi hk, Xae, wkA (e := 8 * (k : Int)), wkA (e := 8 * (k : Int) + (v : Int)), rqA, rqA, wkA (e := (k : Int) + 1), show (8 * (k : Int) + (v : Int)).toNat = 8 * k + v by omega]
    exact ⟨_, rfl, rfl⟩) (by intro s; unfold Xbq; rw [Xaw (by simp)]) 0 rfl
   subst g
   unfold Xbp
   simp only
   rw [syA, ec, Xae, Xb4 (by simp only [List.length_singleton, List.length_map, List.length_range]; omega), wkA (e := (v : Int) + 1)]
   refine ⟨_, rfl, ?_⟩
   rw [hc, show 8 * i + (v + 1) = (8 * i + v) + 1 by omega, List.range_succ, List.map_append, List.map_singleton, show (8 * i + v) / 8 = i by omega, show (8 * i + v) % 8 = v by omega]) (by intro s; unfold Xbp; rw [Xaw (by simp)]) _ rfl
  rw [Nat.add_zero] at er
  unfold Xbo
  simp only
  rw [syA, er, Xae, wkA (e := (i : Int) + 1)]
  exact ⟨_, rfl, by rw [hr, show 8 * (i + 1) = 8 * i + 8 by omega]⟩) (by intro s; unfold Xbo; rw [Xaw (by simp)]) [] rfl
 rw [e2, Xae, ho2]
 rfl
theorem Xlx (l : List Int) (n B : Int) (hn : (l.length : Int) = n) (hn2 : n ≤ 1000000) (h : inB B l) : Xa7 l n (-B) B = some true := by
 rw [Xhp l n (-B) B (by omega), hn, beq_self_eq_true, Bool.and_true]
 congr 1
 rw [List.all_eq_true]
 intro x hx
 rw [decide_eq_true_eq]; exact h x hx
theorem Xr6 (o : List Int) {f : Int × List Int → Option (Lp (Int × List Int) (List Int))} (n : Nat) (hn : n ≤ 64) (hl : o.length = n) (hf : ∀ v : Int × List Int, f v = sel (decide (v.1 < (n : Int))) (req (0 ≤ v.1 ∧ v.1 < v.2.length) <| req (v.1.toNat < v.2.length) <| bnd (Xbx (Xaa .i64 ((v.2.getD v.1.toNat 0) + 32)) 64) fun q => req (0 ≤ v.1 ∧ v.1 < v.2.length) <| req (v.1.toNat < v.2.length) <| some (.go (Xaa .i64 (v.1 + 1), (v.2.set v.1.toNat q)))) (some (.done v.2))) : bnd (Xhb o) (fun q => some q.2) = bnd (loop f (0, o)) fun q => some q := by
 unfold Xhb
 have : Xkq o = f := by
  funext v
  rw [hf, ← hl]; rfl
 rw [this]
 cases loop f (0, o) <;> rfl
theorem Xw5 (p : List Int) (hl : p.length = 64) (hb : inB 10000000 p) : Xgg p = Xdk p := by
 unfold Xgg Xdk
 rw [Xlx p 64 10000000 (by omega) (by omega) hb, Xbv p 64 10000000 (by omega) (by omega) (by omega) hb, Xae, Xae, Bool.not_true, Xaz, Xaz, Xus p hl, Xoi p hl, Xae, Xae]
 exact Xr6 (Yiq p) 64 (by omega) (Yj5 p) (fun _ => rfl)
theorem Yfv (p : List Int) (hl : p.length = 64) (hb : inB 1000 p) : Xlz p = Xiz p := by
 unfold Xlz Xiz
 rw [Xlx p 64 1000 (by omega) (by omega) hb, Xbv p 64 1000 (by omega) (by omega) (by omega) hb, Xae, Xae, Bool.not_true, Xaz, Xaz, Xus p hl, Xoi p hl, Xae]
def tgA (q : Int → Int → Int → Int → Option (Int × Int × Int × Int)) (v4 : (Int × (List Int))) : Option (Lp (Int × (List Int)) (List Int)) :=
 sel (decide (v4.1 < 16)) (
 req (0 ≤ v4.1 ∧ v4.1 < v4.2.length) <|
 req (v4.1.toNat < v4.2.length) <|
 req (0 ≤ (Xaa .i64 (v4.1 + 1)) ∧ (Xaa .i64 (v4.1 + 1)) < v4.2.length) <|
 req ((Xaa .i64 (v4.1 + 1)).toNat < v4.2.length) <|
 req (0 ≤ (Xaa .i64 (v4.1 + 2)) ∧ (Xaa .i64 (v4.1 + 2)) < v4.2.length) <|
 req ((Xaa .i64 (v4.1 + 2)).toNat < v4.2.length) <|
 req (0 ≤ (Xaa .i64 (v4.1 + 3)) ∧ (Xaa .i64 (v4.1 + 3)) < v4.2.length) <|
 req ((Xaa .i64 (v4.1 + 3)).toNat < v4.2.length) <|
 bnd (q (v4.2.getD v4.1.toNat 0) (v4.2.getD ((Xaa .i64 (v4.1 + 1)).toNat) 0) (v4.2.getD ((Xaa .i64 (v4.1 + 2)).toNat) 0) (v4.2.getD ((Xaa .i64 (v4.1 + 3)).toNat) 0)) fun q8 =>
 req (0 ≤ v4.1 ∧ v4.1 ≤ (Xaa .i64 (v4.1 + 4)) ∧ (Xaa .i64 (v4.1 + 4)) ≤ (v4.2.length : Int)) <|
 req ((v4.1.toNat + ((Xaa .i64 (v4.1 + 4)).toNat - v4.1.toNat) ≤ v4.2.length ∧ ([q8.1, q8.2.1, q8.2.2.1, q8.2.2.2]).length ≤ ((Xaa .i64 (v4.1 + 4)).toNat - v4.1.toNat))) <|
 some (.go (Xaa .i64 (v4.1 + 4), (over v4.2 v4.1.toNat ([q8.1, q8.2.1, q8.2.2.1, q8.2.2.2]))))) (
 some (.done v4.2))
def tgB (v17 : (Int × (List Int))) (q26 : (Int × Int × Int × Int)) (v28 : (Int × (List Int))) : Option (Lp (Int × (List Int)) (List Int)) :=
 sel (decide (v28.1 < 4)) (
 req (0 ≤ v28.1 ∧ v28.1 < ([q26.1, q26.2.1, q26.2.2.1, q26.2.2.2] : List Int).length) <|
 req (0 ≤ (Xaa .i64 (v17.1 + (Xaa .i64 (4 * v28.1)))) ∧ (Xaa .i64 (v17.1 + (Xaa .i64 (4 * v28.1)))) < v28.2.length) <|
 req ((Xaa .i64 (v17.1 + (Xaa .i64 (4 * v28.1)))).toNat < v28.2.length) <|
 some (.go (Xaa .i64 (v28.1 + 1), (v28.2.set ((Xaa .i64 (v17.1 + (Xaa .i64 (4 * v28.1)))).toNat) (([q26.1, q26.2.1, q26.2.2.1, q26.2.2.2] : List Int).getD v28.1.toNat 0))))) (
 some (.done v28.2))
noncomputable def tgC (q : Int → Int → Int → Int → Option (Int × Int × Int × Int)) (v17 : (Int × (List Int))) : Option (Lp (Int × (List Int)) (List Int)) :=
 sel (decide (v17.1 < 4)) (
 req (0 ≤ v17.1 ∧ v17.1 < v17.2.length) <|
 req (v17.1.toNat < v17.2.length) <|
 req (0 ≤ (Xaa .i64 (v17.1 + 4)) ∧ (Xaa .i64 (v17.1 + 4)) < v17.2.length) <|
 req ((Xaa .i64 (v17.1 + 4)).toNat < v17.2.length) <|
 req (0 ≤ (Xaa .i64 (v17.1 + 8)) ∧ (Xaa .i64 (v17.1 + 8)) < v17.2.length) <|
 req ((Xaa .i64 (v17.1 + 8)).toNat < v17.2.length) <|
 req (0 ≤ (Xaa .i64 (v17.1 + 12)) ∧ (Xaa .i64 (v17.1 + 12)) < v17.2.length) <|
 req ((Xaa .i64 (v17.1 + 12)).toNat < v17.2.length) <|
 bnd (q (v17.2.getD v17.1.toNat 0) (v17.2.getD ((Xaa .i64 (v17.1 + 4)).toNat) 0) (v17.2.getD ((Xaa .i64 (v17.1 + 8)).toNat) 0) (v17.2.getD ((Xaa .i64 (v17.1 + 12)).toNat) 0)) fun q26 =>
 bnd (loop (tgB v17 q26) (0, v17.2)) fun v30 =>
 some (.go (Xaa .i64 (v17.1 + 1), v30))) (
 some (.done v17.2))
noncomputable def Ylp (q : Int → Int → Int → Int → Option (Int × Int × Int × Int)) (p0 : (List Int)) : Option (List Int) :=
 bnd (Xfz p0) fun q1 =>
 bnd (loop (tgA q) (0, q1)) fun v7 =>
 bnd (loop (tgC q) (0, v7)) fun v25 =>
 some v25
theorem Yj7 : Xbs = Ylp Xcw := rfl
theorem Yj8 : Xco = Ylp Xij := rfl
abbrev Q4 := Int × Int × Int × Int
def Yfc (q : Q4) (i : Nat) : Int := [q.1, q.2.1, q.2.2.1, q.2.2.2].getD i 0
def Xo0 (t : Int → Int → Int → Int → Q4) (p : List Int) : List Int := (List.range 16).map fun j => Yfc (t (p.getD (4 * (j / 4)) 0) (p.getD (4 * (j / 4) + 1) 0) (p.getD (4 * (j / 4) + 2) 0) (p.getD (4 * (j / 4) + 3) 0)) (j % 4)
def Xqz (p : List Int) : List Int := (List.range 16).map fun j => p.getD (j % 4 * 4 + j / 4) 0
theorem Xmd (t : Int → Int → Int → Int → Q4) (p : List Int) : (Xo0 t p).length = 16 := by simp [Xo0]
theorem Xnv (p : List Int) : (Xqz p).length = 16 := by simp [Xqz]
theorem Yfa {l m : List Int} {i : Nat} (h : i + m.length ≤ l.length) (j : Nat) : (over l i m).getD j 0 = if i ≤ j ∧ j < i + m.length then m.getD (j - i) 0 else l.getD j 0 := by
 rw [List.getD_eq_getElem?_getD, Yhi h]
 split <;> rw [List.getD_eq_getElem?_getD]
theorem Yhu {q : Int → Int → Int → Int → Option Q4} {t : Int → Int → Int → Int → Q4} (hq : ∀ a b c d, q a b c d = some (t a b c d)) (p : List Int) (hp : p.length = 16) : Ylp q p = some (Xqz (Xo0 t (Xqz (Xo0 t p)))) := by
 have hm : maxLen = 9223372036854775807 := rfl
 unfold Ylp Xfz
 rw [Xb4 (by simp only [List.length_nil]; omega), Xae, List.nil_append]
 have hA : loop (tgA q) (0, p) = some (Xo0 t p) := by
  have key : ∀ r : Nat, r ≤ 4 → ∀ s : List Int, s.length = 16 → (∀ j, j < 4 * r → s.getD j 0 = (Xo0 t p).getD j 0) → (∀ j, 4 * r ≤ j → s.getD j 0 = p.getD j 0) → loop (tgA q) (((4 * r : Nat) : Int), s) = some (Xo0 t p) := by
   refine Xkj _ ?_ ?_
   ·
    intro s h1 h2 _
    refine Xm1 ?_
    unfold tgA
    rw [Xaw (by simp), Ydb h1 (Xmd t p) h2]
   ·
    intro r hr ih s h1 h2 h3
    refine lgo (y := (((4 * (r + 1) : Nat) : Int), over s (4 * r) [Yfc (t (p.getD (4 * r) 0) (p.getD (4 * r + 1) 0) (p.getD (4 * r + 2) 0) (p.getD (4 * r + 3) 0)) 0, Yfc (t (p.getD (4 * r) 0) (p.getD (4 * r + 1) 0) (p.getD (4 * r + 2) 0) (p.getD (4 * r + 3) 0)) 1, Yfc (t (p.getD (4 * r) 0) (p.getD (4 * r + 1) 0) (p.getD (4 * r + 2) 0) (p.getD (4 * r + 3) 0)) 2, Yfc (t (p.getD (4 * r) 0) (p.getD (4 * r + 1) 0) (p.getD (4 * r + 2) 0) (p.getD (4 * r + 3) 0)) 3])) ?_ (ih _ ?_ ?_ ?_)
    ·
     unfold tgA
     simp only
     rw [syA, wkA (e := ((4 * r : Nat) : Int) + 1), wkA (e := ((4 * r : Nat) : Int) + 2), wkA (e := ((4 * r : Nat) : Int) + 3), wkA (e := ((4 * r : Nat) : Int) + 4)]
     rw [rqA, rqA, rqA, rqA, rqA, rqA, rqA, rqA, hq, Xae, rqA, Xb4 (by simp only [List.length_cons, List.length_nil]; omega)]
     rw [show (((4 * r : Nat) : Int) + 1).toNat = 4 * r + 1 by omega, show (((4 * r : Nat) : Int) + 2).toNat = 4 * r + 2 by omega, show (((4 * r : Nat) : Int) + 3).toNat = 4 * r + 3 by omega, Int.toNat_natCast, h3 _ (by omega), h3 _ (by omega), h3 _ (by omega), h3 _ (by omega)]
     rfl
    ·
     rw [Xyk (by simp only [List.length_cons, List.length_nil]; omega)]; exact h1
    ·
     intro j hj
     rw [Yfa (by simp only [List.length_cons, List.length_nil]; omega)]
     simp only [List.length_cons, List.length_nil]
     by_cases h : 4 * r ≤ j
     ·
      rw [if_pos (by omega)]
      unfold Xo0
      rw [Xi6 _ (by omega), show 4 * (j / 4) = 4 * r by omega]
      obtain h | h | h | h : j = 4 * r ∨ j = 4 * r + 1 ∨ j = 4 * r + 2 ∨ j = 4 * r + 3 := by omega
      ·
       rw [h, show 4 * r - 4 * r = 0 by omega, show (4 * r) % 4 = 0 by omega]; rfl
      ·
       rw [h, show 4 * r + 1 - 4 * r = 1 by omega, show (4 * r + 1) % 4 = 1 by omega]; rfl
      ·
       rw [h, show 4 * r + 2 - 4 * r = 2 by omega, show (4 * r + 2) % 4 = 2 by omega]; rfl
      ·
       rw [h, show 4 * r + 3 - 4 * r = 3 by omega, show (4 * r + 3) % 4 = 3 by omega]; rfl
     ·
      rw [if_neg (by omega)]; exact h2 j (by omega)
    ·
     intro j hj
     rw [Yfa (by simp only [List.length_cons, List.length_nil]; omega), if_neg (by simp only [List.length_cons, List.length_nil]; omega)]
     exact h3 j (by omega)
  exact key 0 (by omega) p hp (fun j hj => by omega) fun _ _ => rfl
 rw [hA, Xae]
 generalize hR : Xo0 t p = R
 have hl : R.length = 16 := by rw [← hR]; exact Xmd t p
 have hC : loop (tgC q) (0, R) = some (Xqz (Xo0 t (Xqz R))) := by
  have at4 : ∀ j : Nat, j < 16 → (Xqz (Xo0 t (Xqz R))).getD j 0 = Yfc (t (R.getD (j % 4) 0) (R.getD (j % 4 + 4) 0) (R.getD (j % 4 + 8) 0) (R.getD (j % 4 + 12) 0)) (j / 4) := by
   intro j hj
   rw [Xqz, Xi6 _ hj, Xo0, Xi6 _ (by omega), Xqz, Xi6 _ (by omega), Xi6 _ (by omega), Xi6 _ (by omega), Xi6 _ (by omega)]
   rw [show (j % 4 * 4 + j / 4) / 4 = j % 4 by omega, show (j % 4 * 4 + j / 4) % 4 = j / 4 by omega, show 4 * (j % 4) % 4 * 4 + 4 * (j % 4) / 4 = j % 4 by omega, show (4 * (j % 4) + 1) % 4 * 4 + (4 * (j % 4) + 1) / 4 = j % 4 + 4 by omega, show (4 * (j % 4) + 2) % 4 * 4 + (4 * (j % 4) + 2) / 4 = j % 4 + 8 by omega, show (4 * (j % 4) + 3) % 4 * 4 + (4 * (j % 4) + 3) / 4 = j % 4 + 12 by omega]
  obtain ⟨o, e, o1, o2, _⟩ := Xlk (f := tgC q) 4 (fun c s => s.length = 16 ∧ (∀ j, j < 16 → j % 4 < c → s.getD j 0 = (Xqz (Xo0 t (Xqz R))).getD j 0) ∧ ∀ j, j < 16 → c ≤ j % 4 → s.getD j 0 = R.getD j 0) (by
   intro c s hc ⟨g1, g2, g3⟩
   obtain ⟨r, er, r1, r2, r3⟩ := Xlk (f := tgB ((c : Int), s) (t (R.getD c 0) (R.getD (c + 4) 0) (R.getD (c + 8) 0) (R.getD (c + 12) 0))) 4 (fun i s' => s'.length = 16 ∧ (∀ j, j < 16 → j % 4 ≠ c → s'.getD j 0 = s.getD j 0) ∧ ∀ j, j < 16 → j % 4 = c → j / 4 < i → s'.getD j 0 = Yfc (t (R.getD c 0) (R.getD (c + 4) 0) (R.getD (c + 8) 0) (R.getD (c + 12) 0)) (j / 4)) (by
    intro i s' hi ⟨k1, k2, k3⟩
    unfold tgB
    simp only
    rw [syA, Xb4 (by simp only [List.length_cons, List.length_nil]; omega), wkA (e := 4 * (i : Int)), wkA (e := (c : Int) + 4 * (i : Int)), rqA, rqA, wkA (e := (i : Int) + 1), show ((c : Int) + 4 * (i : Int)).toNat = c + 4 * i by omega, Int.toNat_natCast]
    refine ⟨_, rfl, by rw [List.length_set]; exact k1, fun j hj hjc => ?_, fun j hj hjc hji => ?_⟩
    ·
     rw [Xgz _ _ _ _ (by omega), if_neg (by omega)]; exact k2 j hj hjc
    ·
     rw [Xgz _ _ _ _ (by omega)]
     by_cases h : c + 4 * i = j
     ·
      rw [if_pos h, show j / 4 = i by omega]; rfl
     ·
      rw [if_neg h]; exact k3 j hj hjc (by omega)) (fun z _ => by unfold tgB; rw [Xaw (by simp)]) s ⟨g1, fun _ _ _ => rfl, fun j hj hjc hji => by omega⟩
   unfold tgC
   simp only
   rw [syA, wkA (e := (c : Int) + 4), wkA (e := (c : Int) + 8), wkA (e := (c : Int) + 12), rqA, rqA, rqA, rqA, rqA, rqA, rqA, rqA, hq, Xae, show ((c : Int) + 4).toNat = c + 4 by omega, show ((c : Int) + 8).toNat = c + 8 by omega, show ((c : Int) + 12).toNat = c + 12 by omega, Int.toNat_natCast, g3 c (by omega) (by omega), g3 (c + 4) (by omega) (by omega), g3 (c + 8) (by omega) (by omega), g3 (c + 12) (by omega) (by omega), er, Xae, wkA (e := (c : Int) + 1)]
   refine ⟨r, rfl, r1, fun j hj hjc => ?_, fun j hj hjc => ?_⟩
   ·
    by_cases h : j % 4 = c
    ·
     rw [r3 j hj h (by omega), at4 j hj, h]
    ·
     rw [r2 j hj h]; exact g2 j hj (by omega)
   ·
    rw [r2 j hj (by omega)]; exact g3 j hj (by omega)) (fun z _ => by unfold tgC; rw [Xaw (by simp)]) R ⟨hl, fun j hj hjc => by omega, fun _ _ _ => rfl⟩
  rw [e]
  congr 1
  exact Ydb o1 (Xnv _) fun j hj => o2 j hj (by omega)
 rw [hC, Xae]
theorem Xib (p : List Int) (hl : p.length = 16) : Xcs p = some (Xqz p) := by
 unfold Xcs
 rw [rqA]
 obtain ⟨o, e, o1, o2⟩ := Xlk (f := Xcf p) 16 (fun i s => s.length = 16 ∧ ∀ j, j < 16 → j % 4 * 4 + j / 4 < i → s.getD j 0 = p.getD (j % 4 * 4 + j / 4) 0) (by
  intro i s hi ⟨g1, g2⟩
  unfold Xcf
  simp only
  rw [syA, rqA, rqA, rqA, Xjg (by omega), Xcq (by omega), wkA (e := (i : Int) / 4), wkA (e := (i : Int) % 4 * 4), wkA (e := (i : Int) % 4 * 4 + (i : Int) / 4), rqA, rqA, wkA (e := (i : Int) + 1), Int.toNat_natCast, show ((i : Int) % 4 * 4 + (i : Int) / 4).toNat = i % 4 * 4 + i / 4 by omega]
  refine ⟨_, rfl, by rw [List.length_set]; exact g1, fun j hj hji => ?_⟩
  rw [Xgz _ _ _ _ (by omega)]
  by_cases h : i % 4 * 4 + i / 4 = j
  ·
   rw [if_pos h, show j % 4 * 4 + j / 4 = i by omega]
  ·
   rw [if_neg h]; exact g2 j hj (by omega)) (fun z _ => by unfold Xcf; rw [Xaw (by simp)]) (List.replicate (16 : Int).toNat 0) ⟨by simp, fun j hj h => by omega⟩
 rw [e, Xae]
 congr 1
 exact Ydb o1 (Xnv p) fun j hj => by rw [o2 j hj (by omega), Xqz, Xi6 _ hj]
theorem Yfg {f : Int × List Int → Option (Lp (Int × List Int) (List Int))} {t : Int → Int → Int → Int → Q4} (p : List Int) (h : ∀ (i : Nat) (s : List Int), i < 4 → s.length = 4 * i → f ((i : Int), s) = some (.go (((i + 1 : Nat) : Int), s ++ [(t (p.getD (4 * i) 0) (p.getD (4 * i + 1) 0) (p.getD (4 * i + 2) 0) (p.getD (4 * i + 3) 0)).1, (t (p.getD (4 * i) 0) (p.getD (4 * i + 1) 0) (p.getD (4 * i + 2) 0) (p.getD (4 * i + 3) 0)).2.1, (t (p.getD (4 * i) 0) (p.getD (4 * i + 1) 0) (p.getD (4 * i + 2) 0) (p.getD (4 * i + 3) 0)).2.2.1, (t (p.getD (4 * i) 0) (p.getD (4 * i + 1) 0) (p.getD (4 * i + 2) 0) (p.getD (4 * i + 3) 0)).2.2.2]))) (he : ∀ s, f (4, s) = some (.done s)) : loop f (0, []) = some (Xo0 t p) := by
 obtain ⟨o, e, ho⟩ := Xlk (f := f) 4 (fun i s => s = (List.range (4 * i)).map fun j => Yfc (t (p.getD (4 * (j / 4)) 0) (p.getD (4 * (j / 4) + 1) 0) (p.getD (4 * (j / 4) + 2) 0) (p.getD (4 * (j / 4) + 3) 0)) (j % 4)) (by
  intro i s hi g
  refine ⟨_, h i s hi (by rw [g]; simp), ?_⟩
  rw [g, show 4 * (i + 1) = 4 * i + 1 + 1 + 1 + 1 by omega]
  simp only [List.range_succ, List.map_append, List.map_singleton, List.append_assoc]
  rw [show (4 * i + 1 + 1 + 1) / 4 = i by omega, show (4 * i + 1 + 1) / 4 = i by omega, show (4 * i + 1) / 4 = i by omega, show 4 * i / 4 = i by omega, show (4 * i + 1 + 1 + 1) % 4 = 3 by omega, show (4 * i + 1 + 1) % 4 = 2 by omega, show (4 * i + 1) % 4 = 1 by omega, show 4 * i % 4 = 0 by omega]
  rfl) (fun z _ => he z) [] rfl
 rw [e, ho]; rfl
def t4F (a b c d : Int) : Q4 := (Xaa .i64 ((Xaa .i64 ((Xaa .i64 (a + b)) + c)) + d), Xaa .i64 ((Xaa .i64 ((Xaa .i64 ((Xaa .i64 (2 * a)) + b)) - c)) - (Xaa .i64 (2 * d))), Xaa .i64 ((Xaa .i64 ((Xaa .i64 (a - b)) - c)) + d), Xaa .i64 ((Xaa .i64 ((Xaa .i64 (a - (Xaa .i64 (2 * b)))) + (Xaa .i64 (2 * c)))) - d))
theorem Xz4 (a b c d : Int) : Xij a b c d = some (t4F a b c d) := rfl
def Ybs (a b : Int) : Int := Xaa .i64 (if a.tmod b < 0 then Xaa .i64 (a.tdiv b) - 1 else a.tdiv b)
theorem Xos (a b : Int) (hb : b ≠ 0) : Xbx a b = some (Ybs a b) := by
 unfold Xbx Ybs
 rw [Xb4 hb, Xb4 hb, Ygn]
 split <;> rfl
def t4B (a b c d : Int) : Q4 := (Xaa .i64 ((Xaa .i64 (a + c)) + (Xaa .i64 (b + Ybs d 2))), Xaa .i64 ((Xaa .i64 (a - c)) + (Xaa .i64 (Ybs b 2 - d))), Xaa .i64 ((Xaa .i64 (a - c)) - (Xaa .i64 (Ybs b 2 - d))), Xaa .i64 ((Xaa .i64 (a + c)) - (Xaa .i64 (b + Ybs d 2))))
theorem Xq5 (a b c d : Int) : Xcw a b c d = some (t4B a b c d) := by
 unfold Xcw
 rw [Yf5, Xos b 2 (by omega), Xos d 2 (by omega), Xae, Xae]; rfl
theorem Xnj (p : List Int) (hl : p.length = 16) : Xde p = some (Xo0 t4B p) := by
 have hm : maxLen = 9223372036854775807 := rfl
 unfold Xde
 rw [Yfg (f := Xbw p) (t := t4B) p (by
  intro i s hi hs
  unfold Xbw
  simp only
  rw [syA, wkA (e := 4 * (i : Int)), wkA (e := 4 * (i : Int) + 1), wkA (e := 4 * (i : Int) + 2), wkA (e := 4 * (i : Int) + 3), rqA, rqA, rqA, rqA, show (4 * (i : Int)).toNat = 4 * i by omega, show (4 * (i : Int) + 1).toNat = 4 * i + 1 by omega, show (4 * (i : Int) + 2).toNat = 4 * i + 2 by omega, show (4 * (i : Int) + 3).toNat = 4 * i + 3 by omega, Xos _ 2 (by omega), Xae, Xos _ 2 (by omega), Xae, wkA (e := (i : Int) + 1), Xb4 (by simp only [List.length_cons, List.length_nil]; omega)]
  rfl) (by intro s; unfold Xbw; rw [Xaw (by simp)]), Xae]
theorem Xof (p : List Int) (hl : p.length = 16) : Xea p = some (Xo0 t4F p) := by
 have hm : maxLen = 9223372036854775807 := rfl
 unfold Xea
 rw [Yfg (f := Xcg p) (t := t4F) p (by
  intro i s hi hs
  unfold Xcg
  simp only
  rw [syA, wkA (e := 4 * (i : Int)), wkA (e := 4 * (i : Int) + 1), wkA (e := 4 * (i : Int) + 2), wkA (e := 4 * (i : Int) + 3), rqA, rqA, rqA, rqA, show (4 * (i : Int)).toNat = 4 * i by omega, show (4 * (i : Int) + 1).toNat = 4 * i + 1 by omega, show (4 * (i : Int) + 2).toNat = 4 * i + 2 by omega, show (4 * (i : Int) + 3).toNat = 4 * i + 3 by omega, wkA (e := (i : Int) + 1), Xb4 (by simp only [List.length_cons, List.length_nil]; omega)]
  rfl) (by intro s; unfold Xcg; rw [Xaw (by simp)]), Xae]
theorem Xzv (p : List Int) (hl : p.length = 16) (hb : inB 10000000 p) : Xhl p = Xej p := by
 unfold Xhl Xej
 rw [Xlx p 16 10000000 (by omega) (by omega) hb, Xbv p 16 10000000 (by omega) (by omega) (by omega) hb, Xae, Xae, Bool.not_true, Xaz, Xaz, Yj7, Yhu Xq5 p hl, Xnj p hl, Xae, Xae, Xib _ (Xmd _ _), Xae, Xnj _ (Xnv _), Xae, Xib _ (Xmd _ _), Xae]
 exact Xr6 _ 16 (by omega) (Xnv _) (fun _ => rfl)
theorem Yhy (p : List Int) (hl : p.length = 16) (hb : inB 1000 p) : Xnz p = Xkx p := by
 unfold Xnz Xkx
 rw [Xlx p 16 1000 (by omega) (by omega) hb, Xbv p 16 1000 (by omega) (by omega) (by omega) hb, Xae, Xae, Bool.not_true, Xaz, Xaz, Yj8, Yhu Xz4 p hl, Xof p hl, Xae, Xae, Xib _ (Xmd _ _), Xae, Xof _ (Xnv _), Xae, Xib _ (Xmd _ _), Xae]
theorem Yie {β : Type} {c : Prop} [Decidable c] {k k' : Option β} (h : c → k = k') : req c k = req c k' := by
 by_cases hc : c
 ·
  rw [Xb4 hc, Xb4 hc, h hc]
 ·
  unfold req; rw [if_neg hc, if_neg hc]
theorem Xih {β : Type} {c : Prop} [Decidable c] {k k' : Option β} (h0 : c) (h : k = k') : req c k = k' := by rw [Xb4 h0, h]
theorem Xty {β : Type} {b : Bool} {x x' y y' : β} (h : b = true → x = x') (h2 : b = false → y = y') : sel b x y = sel b x' y' := by
 cases b
 ·
  exact h2 rfl
 ·
  exact h rfl
theorem Yh3 {α β : Type} {x x' : Option α} {f f' : α → Option β} (h : x = x') (h2 : ∀ a, x' = some a → f a = f' a) : bnd x f = bnd x' f' := by
 subst h
 cases x with
 | none => rfl
 | some a => exact h2 a rfl
theorem Yji {V O : Type} {f : V → Option (Lp V O)} (I : V → Prop) (J : O → Prop) (h1 : ∀ v v', I v → f v = some (.go v') → I v') (h2 : ∀ v o, I v → f v = some (.done o) → J o) {v : V} {o : O} (h : loop f v = some o) (hv : I v) : J o := by
 obtain ⟨k, hk⟩ := Xga.1 h
 clear h
 induction k generalizing v with
 | zero => cases hk
 | succ k ih =>
  rw [it] at hk
  cases e : f v with
  | none => rw [e] at hk; cases hk
  | some s =>
   rw [e] at hk
   cases s with
   | go y => exact ih (h1 v y hv e) hk
   | done o' => cases hk; exact h2 v o hv e
theorem Xw7 (l qp p : Int) (h0 : 0 ≤ qp ∧ qp ≤ 40) (hp : 0 ≤ p ∧ p ≤ 15) : Xgj l qp p = Xdn l qp p := by
 unfold Xgj Xdn
 rw [Xaq, Xai, Yb9 qp p h0 hp]
theorem Xw6 (l qp : Int) (h0 : 0 ≤ qp ∧ qp ≤ 40) : Xgh l qp = Xdm l qp := by
 unfold Xgh Xdm
 rw [Xaq, Xai, Xun qp h0]
theorem Xyu (x : Int) (h : -1000000000000 ≤ x ∧ x ≤ 1000000000000) : Xjk x = Xcp x := by
 unfold Xjk Xcp
 rw [wkA]
 by_cases hx : x < 0
 ·
  rw [Xck hx, if_pos (by omega)]
 ·
  rw [Xaw hx, if_neg (by omega)]
theorem Yjy : ∀ q : Fin 41, ∀ p : Fin 16, Xjj (q.val : Int) (p.val : Int) = Xfk (q.val : Int) (p.val : Int) := by decide +kernel
theorem Yca (qp p : Int) (h0 : 0 ≤ qp ∧ qp ≤ 40) (hp : 0 ≤ p ∧ p ≤ 15) : Xjj qp p = Xfk qp p := by
 have := Yjy ⟨qp.toNat, by omega⟩ ⟨p.toNat, by omega⟩
 simp only at this
 rwa [show ((qp.toNat : Nat) : Int) = qp by omega, show ((p.toNat : Nat) : Int) = p by omega] at this
theorem Yfn (x w : Int) : Xkr x w = Xdo w x := rfl
theorem Xu0 (w qp : Int) (h0 : 0 ≤ qp ∧ qp ≤ 40) : Xe4 w qp = Xcz w qp := by
 unfold Xe4 Xcz
 rw [Xaq, Xai, Xaq, Xai, Xun qp h0]
 by_cases hw : -20000 ≤ w ∧ w ≤ 20000
 ·
  rw [Xyu w (by omega)]; rfl
 ·
  rw [decide_eq_false hw]; rfl
theorem Yop (qp : Int) (h0 : 0 ≤ qp ∧ qp ≤ 40) : Xaa .u64 (Xaa .i64 (15 + (Xaa .i64 (qp.tdiv 6)))) = Xaa .i64 (15 + (Xaa .i64 (qp.tdiv 6))) := by
 have h : ∀ q : Fin 41, Xaa .u64 (Xaa .i64 (15 + (Xaa .i64 ((q.val : Int).tdiv 6)))) = Xaa .i64 (15 + (Xaa .i64 ((q.val : Int).tdiv 6))) := by decide +kernel
 have := h ⟨qp.toNat, by omega⟩
 simp only at this
 rwa [show ((qp.toNat : Nat) : Int) = qp by omega] at this
theorem Xu1 (w qp p : Int) (h0 : 0 ≤ qp ∧ qp ≤ 40) (hp : 0 ≤ p ∧ p ≤ 15) : Xe7 w qp p = Xc1 w qp p := by
 unfold Xe7 Xc1
 have h15 := Yop qp h0
 simp only [Xaq, Xai, Yca qp p h0 hp, h15, Yfn]
 by_cases hw : -20000 ≤ w ∧ w ≤ 20000
 ·
  simp only [Xyu w (by omega)]
 ·
  simp only [decide_eq_false hw, Xae, Xaz, Xa5]
def Xr2 (k : Int) (v7 : Int × List Int) : Option (Lp (Int × List Int) (List Int)) :=
 sel (decide (v7.1 < 4)) (
 bnd (it (Xjv k v7) 10 (0, v7.2)) fun v18 =>
 some (.go (Xaa .i64 (v7.1 + 1), v18))) (
 some (.done v7.2))
theorem Yfe {k : Int} {v : Int × List Int} {x : Lp (Int × List Int) (List Int)} (h : Xr2 k v = some x) : Xgu k v = some x := by
 unfold Xr2 at h
 unfold Xgu
 rcases Xgv h with ⟨hb, h⟩ | ⟨hb, h⟩
 ·
  rw [hb, Xa5]
  obtain ⟨a, h1, h2⟩ := Xa4 h
  rw [Xga.2 ⟨10, h1⟩, Xae]
  exact h2
 ·
  rw [hb, Xaz]; exact h
def Xhx (k : Int) : List Int := (it (Xr2 k) 10 (0, [])).getD []
def Xjp (k i : Int) : Int := (Xaa .i64 ((Xaa .i64 ((Xaa .i64 (8 * (Xaa .i64 ((Xaa .i64 ((Xaa .i64 (k.tdiv 2)) * 4)) + (Xaa .i64 (i.tdiv 4)))))) + (Xaa .i64 ((k.tmod 2) * 4)))) + (i.tmod 4)))
theorem Ygk : ∀ k : Fin 4, (it (Xr2 (k.val : Int)) 10 (0, [])).isSome = true ∧ (Xhx (k.val : Int)).length = 16 ∧ ∀ i : Fin 16, (Xhx (k.val : Int)).getD i.val 0 = Xjp (k.val : Int) (i.val : Int) ∧ 0 ≤ Xjp (k.val : Int) (i.val : Int) ∧ Xjp (k.val : Int) (i.val : Int) < 64 := by decide +kernel
theorem Xkp (k : Nat) (hk : k < 4) : Xha k = some (Xhx k) ∧ (Xhx k).length = 16 ∧ ∀ i : Nat, i < 16 → (Xhx k).getD i 0 = Xjp k i ∧ 0 ≤ Xjp k i ∧ Xjp k i < 64 := by
 obtain ⟨h1, h2, h3⟩ := Ygk ⟨k, hk⟩
 refine ⟨?_, h2, fun i hi => h3 ⟨i, hi⟩⟩
 obtain ⟨o, ho⟩ := Option.isSome_iff_exists.1 h1
 have hl := Ygg 10 (Ykz (fun v y => Yfe (k := (k : Int))) 10 _ ho)
 unfold Xha
 rw [hl, Xae]
 unfold Xhx; simp only at ho; rw [ho]; rfl
theorem Xm8 (p : List Int) (c : Cond) (hc : Xla c = true) (hp : Yao p = true) : Xe5 p c = Xcd p c := by
 have hq := Xqx hc
 obtain ⟨hl, hb⟩ := Xyh hp
 unfold Xe5 Xcd
 rw [Xdj, Xgf, Xl2 p (by omega), hp, hc, Xbv p 64 5000 (by omega) (by omega) (by omega) hb]
 simp only [Xae, Xa5, Bool.not_true, Xaz]
 rw [Xns 8 (Or.inr rfl) p (by omega)]
 refine Xty (fun _ => rfl) fun _ => Xty (fun _ => ?_) fun _ => ?_
 ·
  obtain ⟨w, ew, w1, w2⟩ := Xd4 8 (Or.inr rfl) p 5000 (by omega) (by omega) hb
  rw [ew, Xae, Xae]
  have hloop : loop (Xc6 c (w, true)) (0, (w, true).1) = loop (Xa2 c) (0, (w, true).1) := by
   have : Xc6 c (w, true) = Xa2 c := by
    funext v
    unfold Xc6 Xa2
    simp only [Xw6 _ _ hq, w1, hl]
    rfl
   rw [this]
  rw [hloop]
  obtain ⟨l, el, l1, l2⟩ := Xjc (f := Xa2 c) 64 (fun x => -5000 ≤ x ∧ x ≤ 5000) (fun x => -5760000 ≤ x ∧ x ≤ 5760000) (by
   intro i l hi hll hx
   obtain ⟨d, ed, d1, d2⟩ := Xmf (l.getD i 0) c.Qp hx hq
   unfold Xa2
   simp only [Int.toNat_natCast]
   rw [syA, rqA, rqA, ed, Xae, rqA, rqA, wkA (e := (i : Int) + 1)]
   exact ⟨d, rfl, d1, d2⟩) (by intro s; unfold Xa2; rw [Xaw (by simp)]) w (by omega) w2
  simp only [el, Xae]
  rw [Xw5 l l1 (Xld l2 (by omega))]
 ·
  refine Yie fun _ => Yh3 ?_ fun _ _ => rfl
  refine Xiw (fun v => (∃ k : Nat, v.1 = (k : Int) ∧ k ≤ 4) ∧ v.2.length = 64) ?_ ?_ ⟨⟨0, rfl, by omega⟩, by simp⟩
  ·
   intro ⟨k0, s⟩ ⟨⟨k, ek, hk⟩, hs⟩
   simp only at ek hs
   subst ek
   unfold Xg1 Xbl
   simp only
   refine Xty (fun hk4 => ?_) fun _ => rfl
   have hk4 : k < 4 := by have := of_decide_eq_true hk4; omega
   rw [wkA (e := 16 * (k : Int)), wkA (e := 16 * (k : Int) + 16)]
   refine Yie fun _ => ?_
   rw [show (16 * (k : Int)).toNat = 16 * k by omega, show (16 * (k : Int) + 16).toNat - 16 * k = 16 by omega]
   have hcut : ((p.drop (16 * k)).take 16).length = 16 := by rw [List.length_take, List.length_drop]; omega
   obtain ⟨a, ea, a1, a2⟩ := Xd4 4 (Or.inl rfl) ((p.drop (16 * k)).take 16) 5000 (by omega) (by omega) (Yg4 (Yg2 hb _) _)
   rw [Xns 4 (Or.inl rfl) _ (by omega), ea, Xae, Xae]
   have hloop : loop (Xcx c (a, true)) (0, (a, true).1) = loop (Xa1 c) (0, (a, true).1) := by
    have : Xcx c (a, true) = Xa1 c := by
     funext v
     unfold Xcx Xa1
     simp only [show ((a.length : Nat) : Int) = 16 by omega]
     refine Xty (fun h16 => ?_) fun _ => rfl
     have := of_decide_eq_true h16
     refine Yie fun h0 => Yie fun _ => ?_
     rw [Xw7 _ _ _ hq (by omega)]
    rw [this]
   rw [hloop]
   obtain ⟨l, el, l1, l2⟩ := Xjc (f := Xa1 c) 16 (fun x => -5000 ≤ x ∧ x ≤ 5000) (fun x => -10000000 ≤ x ∧ x ≤ 10000000) (by
    intro i l hi hll hx
    obtain ⟨d, ed, d1, d2⟩ := Xmg (l.getD i 0) c.Qp i hx hq (by omega)
    unfold Xa1
    simp only [Int.toNat_natCast]
    rw [syA, rqA, rqA, ed, Xae, rqA, rqA, wkA (e := (i : Int) + 1)]
    exact ⟨d, rfl, d1, d2⟩) (by intro s; unfold Xa1; rw [Xaw (by simp)]) a (by omega) a2
   obtain ⟨b, eb, b1, b2⟩ := Xnf l l1 l2
   obtain ⟨q1, q2, q3⟩ := Xkp k hk4
   simp only [el, Xae]
   rw [Xzv l l1 l2, eb, Xae, Xae, q1, Xae]
   refine Yh3 ?_ fun _ _ => rfl
   have : Xec b (Xhx k) = Xa3 ((k : Int), s) b := by
    funext v
    unfold Xec Xa3
    simp only [show (((Xhx k).length : Nat) : Int) = 16 by omega]
    refine Xty (fun h16 => ?_) fun _ => rfl
    have h16 := of_decide_eq_true h16
    by_cases h0 : 0 ≤ v.1
    ·
     obtain ⟨i, hi⟩ : ∃ i : Nat, v.1 = (i : Int) := ⟨v.1.toNat, by omega⟩
     obtain ⟨v1, v2⟩ := v
     simp only at hi h0 h16
     subst hi
     obtain ⟨r1, r2, r3⟩ := q3 i (by omega)
     have e1 : (Xaa .i64 ((Xaa .i64 ((Xaa .i64 (8 * (Xaa .i64 ((Xaa .i64 ((Xaa .i64 ((k : Int).tdiv 2)) * 4)) + (Xaa .i64 ((i : Int).tdiv 4)))))) + (Xaa .i64 (((k : Int).tmod 2) * 4)))) + ((i : Int).tmod 4))) = Xjp k i := rfl
     simp only [Int.toNat_natCast, r1, e1]
     refine Xih (by omega) (Xih (by omega) (Xih (by omega) (Xih (by omega) ?_)))
     refine (Xih (by omega) (Xih (by omega) (Xih (by omega) (Xih (by omega) (Xih (by omega) (Xih (by omega) ?_)))))).symm
     rfl
    ·
     unfold req
     rw [if_neg (by omega), if_pos (by omega), if_pos (by omega), if_pos (by omega), if_pos (by omega), if_neg (by omega)]
   rw [this]
  ·
   intro ⟨k0, s⟩ v' ⟨⟨k, ek, hk⟩, hs⟩ he
   simp only at ek hs
   subst ek
   unfold Xbl at he
   simp only at he
   rcases Xgv he with ⟨hb4, he⟩ | ⟨_, he⟩
   ·
    have hk4 : k < 4 := by have := of_decide_eq_true hb4; omega
    obtain ⟨_, he⟩ := Xau he
    obtain ⟨a, _, he⟩ := Xa4 he
    obtain ⟨l, _, he⟩ := Xa4 he
    obtain ⟨b, _, he⟩ := Xa4 he
    obtain ⟨r, hr, he⟩ := Xa4 he
    rw [wkA (e := (k : Int) + 1)] at he
    cases he
    refine ⟨⟨k + 1, rfl, by omega⟩, ?_⟩
    refine Yji (f := Xa3 ((k : Int), s) b) (fun v => v.2.length = 64) (fun o => o.length = 64) ?_ ?_ hr hs
    ·
     intro v v' hv he
     unfold Xa3 at he
     rcases Xgv he with ⟨_, he⟩ | ⟨_, he⟩
     ·
      obtain ⟨_, he⟩ := Xau he
      obtain ⟨_, he⟩ := Xau he
      obtain ⟨_, he⟩ := Xau he
      obtain ⟨_, he⟩ := Xau he
      obtain ⟨_, he⟩ := Xau he
      obtain ⟨_, he⟩ := Xau he
      obtain ⟨_, he⟩ := Xau he
      obtain ⟨_, he⟩ := Xau he
      cases he
      simp only [List.length_set]; exact hv
     ·
      cases he
    ·
     intro v o hv he
     unfold Xa3 at he
     rcases Xgv he with ⟨_, he⟩ | ⟨_, he⟩
     ·
      obtain ⟨_, he⟩ := Xau he
      obtain ⟨_, he⟩ := Xau he
      obtain ⟨_, he⟩ := Xau he
      obtain ⟨_, he⟩ := Xau he
      obtain ⟨_, he⟩ := Xau he
      obtain ⟨_, he⟩ := Xau he
      obtain ⟨_, he⟩ := Xau he
      obtain ⟨_, he⟩ := Xau he
      cases he
     ·
      cases he; exact hv
   ·
    cases he
theorem Yhe {S O : Type} {f g : Int × S → Option (Lp (Int × S) O)} (n : Nat) (I : Nat → S → Prop) (h : ∀ (i : Nat) (s : S), i ≤ n → I i s → f ((i : Int), s) = g ((i : Int), s)) (hI : ∀ (i : Nat) (s : S) (v' : Int × S), i ≤ n → I i s → g ((i : Int), s) = some (.go v') → v'.1 = ((i + 1 : Nat) : Int) ∧ i + 1 ≤ n ∧ I (i + 1) v'.2) {s0 : S} (h0 : I 0 s0) : loop f (0, s0) = loop g (0, s0) := by
 refine Xiw (fun v => ∃ i : Nat, v.1 = (i : Int) ∧ i ≤ n ∧ I i v.2) ?_ ?_ ⟨0, rfl, by omega, h0⟩
 ·
  intro ⟨k, s⟩ ⟨i, e, hi, hs⟩
  simp only at e hs
  subst e
  exact h i s hi hs
 ·
  intro ⟨k, s⟩ v' ⟨i, e, hi, hs⟩ he
  simp only at e hs
  subst e
  obtain ⟨a, b, c⟩ := hI i s v' hi hs he
  exact ⟨i + 1, a, b, c⟩
theorem Yff (p : List Int) (hl : p.length = 64) (k : Nat) (hk : k < 4) : loop (Xdt p (Xhx k)) (0, ([] : List Int)) = Xc2 p k := by
 obtain ⟨q1, q2, q3⟩ := Xkp k hk
 unfold Xc2
 rw [Yhe (f := Xdt p (Xhx k)) (g := Xbb p k) 16 (fun _ _ => True) ?_ ?_ trivial]
 ·
  cases loop (Xbb p k) (0, ([] : List Int)) <;> rfl
 ·
  intro i s hi _
  unfold Xdt Xbb
  simp only [show (((Xhx k).length : Nat) : Int) = 16 by omega]
  refine Xty (fun h16 => ?_) fun _ => rfl
  have h16 := of_decide_eq_true h16
  obtain ⟨r1, r2, r3⟩ := q3 i (by omega)
  have e1 : (Xaa .i64 ((Xaa .i64 ((Xaa .i64 (8 * (Xaa .i64 ((Xaa .i64 ((Xaa .i64 ((k : Int).tdiv 2)) * 4)) + (Xaa .i64 ((i : Int).tdiv 4)))))) + (Xaa .i64 (((k : Int).tmod 2) * 4)))) + ((i : Int).tmod 4))) = Xjp k i := rfl
  simp only [Int.toNat_natCast, r1, e1]
  refine Xih (by omega) (Xih (by omega) (Xih (by omega) ?_))
  refine (Xih (by omega) (Xih (by omega) (Xih (by omega) (Xih (by omega) (Xih (by omega) ?_))))).symm
  rfl
 ·
  intro i s v' hi _ he
  unfold Xbb at he
  rcases Xgv he with ⟨hb, he⟩ | ⟨_, he⟩
  ·
   have h16 := of_decide_eq_true hb
   simp only at h16 he
   obtain ⟨_, he⟩ := Xau he
   obtain ⟨_, he⟩ := Xau he
   obtain ⟨_, he⟩ := Xau he
   obtain ⟨_, he⟩ := Xau he
   obtain ⟨_, he⟩ := Xau he
   obtain ⟨_, he⟩ := Xau he
   injection he with he
   injection he with he
   subst he
   exact ⟨wkA, by omega, trivial⟩
  ·
   cases he
theorem Xo1 (p : List Int) (c : Cond) (hc : Xla c = true) (hl : p.length = 64) (hb : inB 255 p) : Xed p c = Xbu p c := by
 have hq := Xqx hc
 unfold Xed Xbu
 rw [Xdj, Xgf, Xlx p 64 255 (by omega) (by omega) hb, hc, Xbv p 64 255 (by omega) (by omega) (by omega) hb]
 simp only [Xae, Xa5, Bool.not_true, Xaz]
 rw [Xmq 8 (Or.inr rfl) p (by omega)]
 refine Xty (fun _ => rfl) fun _ => Xty (fun _ => ?_) fun _ => ?_
 ·
  obtain ⟨w, ew, w1⟩ := Xsb p hl hb
  rw [Yfv p hl (Xld hb (by omega)), ew, Xae, Xae]
  have : Xgs c w = Xbe c := by
   funext v
   unfold Xgs Xbe
   simp only [Xu0 _ _ hq, w1]
   rfl
  rw [this]
  obtain ⟨l, el, l1, l2⟩ := Xjc (f := Xbe c) 64 (fun _ => True) (fun x => -5000 ≤ x ∧ x ≤ 5000) (by
   intro i l hi hll _
   obtain ⟨d, ed, d1, d2⟩ := Xlf (l.getD i 0) c.Qp hq
   unfold Xbe
   simp only [Int.toNat_natCast]
   rw [syA, rqA, rqA, ed, Xae, rqA, rqA, wkA (e := (i : Int) + 1)]
   exact ⟨d, rfl, d1, d2⟩) (by intro s; unfold Xbe; rw [Xaw (by simp)]) w w1 (fun _ _ => trivial)
  rw [el, Xae, Xae, Xmq 8 (Or.inr rfl) l (by omega)]
 ·
  refine Yh3 ?_ fun _ _ => rfl
  refine Yhe 4 (fun _ _ => True) ?_ ?_ trivial
  ·
   intro k s hk _
   unfold Xil Xb6
   refine Xty (fun h4 => ?_) fun _ => rfl
   have hk4 : k < 4 := by have := of_decide_eq_true h4; simp only at this; omega
   obtain ⟨q1, q2, q3⟩ := Xkp k hk4
   simp only [q1, Xae]
   rw [Yff p hl k hk4]
   obtain ⟨a, ea, a1, a2⟩ := Xlj p k hk4 255 hl hb
   obtain ⟨b, eb, b1, b2⟩ := Xux a a1 a2
   rw [ea, Xae, Xae, Yhy a a1 (Xld a2 (by omega)), eb, Xae, Xae]
   have : Xfv c b = Xa9 c := by
    funext v
    unfold Xfv Xa9
    simp only [show ((b.length : Nat) : Int) = 16 by omega]
    refine Xty (fun h16 => ?_) fun _ => rfl
    have := of_decide_eq_true h16
    refine Yie fun h0 => Yie fun _ => ?_
    rw [Xu1 _ _ _ hq (by omega)]
   rw [this]
   obtain ⟨l, el, l1, l2⟩ := Xjc (f := Xa9 c) 16 (fun x => -9180 ≤ x ∧ x ≤ 9180) (fun x => -5000 ≤ x ∧ x ≤ 5000) (by
    intro i l hi hll hx
    obtain ⟨d, ed, d1, d2⟩ := Xli (l.getD i 0) c.Qp i hx hq (by omega)
    unfold Xa9
    simp only [Int.toNat_natCast]
    rw [syA, rqA, rqA, ed, Xae, rqA, rqA, wkA (e := (i : Int) + 1)]
    exact ⟨d, rfl, d1, d2⟩) (by intro s; unfold Xa9; rw [Xaw (by simp)]) b b1 b2
   rw [el, Xae, Xae, Xmq 4 (Or.inl rfl) l (by omega)]
  ·
   intro k s v' hk _ he
   unfold Xb6 at he
   rcases Xgv he with ⟨hb4, he⟩ | ⟨_, he⟩
   ·
    have hk4 := of_decide_eq_true hb4
    simp only at hk4 he
    obtain ⟨a, _, he⟩ := Xa4 he
    obtain ⟨l, _, he⟩ := Xa4 he
    obtain ⟨b, _, he⟩ := Xa4 he
    obtain ⟨r, _, he⟩ := Xa4 he
    obtain ⟨_, he⟩ := Xau he
    injection he with he
    injection he with he
    subst he
    exact ⟨wkA, by omega, trivial⟩
   ·
    cases he
theorem Yeh {p : Pic} (ok : Xe0 p = true) (x y : Int) : Xc9 p x y = Xd2 p x y := by rw [Xx3 ok, Xh3 ok]
theorem Xn5 {p : Pic} (ok : Xe0 p = true) {x y : Int} (hx : x.tmod 8 = 0) (hy : y.tmod 8 = 0) (h : Xcv p x y = true) : Xa6 p x y = some true := Xju ok x y hx hy h
theorem Xqt {p : Pic} (ok : Xe0 p = true) {x y : Int} (hx : x.tmod 8 = 0) (hy : y.tmod 8 = 0) (h : Xcv p x y = true) : Xg8 p x y = Xdc p x y := by
 unfold Xg8 Xdc
 rw [Xcn, ok, Xn5 ok hx hy h, Xet ok hx hy h]
 have : Xhk p x y = Xcy p x y := by
  funext v
  unfold Xhk Xcy
  simp only [Yeh ok]
 simp only [Xae, Xa5, Bool.not_true, Xaz, this, Yeh ok]
theorem Xw4 {e : Xft} (h : Xnu e) : Xg9 e = some true := by
 obtain ⟨h1, h2, h3, h4, h5, h6⟩ := h
 have side : ∀ l : List Int, (l.length = 0 ∨ l.length = 8) → (∀ x ∈ l, 0 ≤ x ∧ x ≤ 255) → bnd (sel (decide ((l.length : Int) > 0)) (bnd (Xa7 l 8 0 255) fun q10 => some (!q10)) (some false)) (fun v9 => some v9) = some false := by
  intro l hl hb
  rcases hl with e | e
  ·
   rw [snA]; rfl
  ·
   rw [syA, Xhp l 8 0 255 (by omega)]
   have : (l.all fun x => decide (0 ≤ x ∧ x ≤ 255)) = true := List.all_eq_true.2 fun x hx => decide_eq_true (hb x hx)
   rw [this, e]; rfl
 have go : ∀ (i : Nat) (l : List Int), i < 2 → ([e.Above, e.Left]).getD i Xww = l → (l.length = 0 ∨ l.length = 8) → (∀ x ∈ l, 0 ≤ x ∧ x ≤ 255) → Xds e (i : Int) = some (.go ((i + 1 : Nat) : Int)) := by
  intro i l hi hg hl hb
  unfold Xds
  simp only [Int.toNat_natCast, hg]
  have hs := side l hl hb
  rw [Xck (by simp only [List.length_cons, List.length_nil]; omega), Xb4 (by simp only [List.length_cons, List.length_nil]; omega), Xb4 (by simp only [List.length_cons, List.length_nil]; omega)]
  obtain ⟨a, ea, hs⟩ := Xa4 hs
  injection hs with hs
  subst hs
  rw [ea, Xae, Xaz, wkA]
  rfl
 unfold Xg9
 have : loop (Xds e) 0 = some (.out ()) := by
  refine lgo (go 0 e.Above (by omega) rfl h1 h3) (lgo (go 1 e.Left (by omega) rfl h2 h4) (Xm1 ?_))
  unfold Xds
  rw [Xaw (by simp)]
 rw [this, Xae, Xaq, Xae, decide_eq_true ⟨h5, h6⟩]
def Yht (l : List Int) : Nat → Int
 | 0 => 0
 | n + 1 => Yht l n + l.getD n 0
theorem Xoz {l : List Int} (h : ∀ x ∈ l, 0 ≤ x ∧ x ≤ 255) : ∀ n : Nat, n ≤ l.length → 0 ≤ Yht l n ∧ Yht l n ≤ 255 * n
 | 0, _ => by simp [Yht]
 | n + 1, hn => by
  have a := Xoz h n (by omega)
  have b := h (l.getD n 0) (by rw [Xe2 l n (by omega)]; exact List.getElem_mem _)
  rw [Yht]; omega
theorem Yd2 {f : Int × Int → Option (Lp (Int × Int) Int)} {l : List Int} (hl : l.length ≤ 64) (h : ∀ x ∈ l, 0 ≤ x ∧ x ≤ 255) (hf : ∀ v, f v = sel (decide (v.2 < (l.length : Int))) (req (0 ≤ v.2 ∧ v.2 < l.length) <| some (.go (Xaa .i64 (v.1 + (l.getD v.2.toNat 0)), Xaa .i64 (v.2 + 1)))) (some (.done v.1))) (a : Int) (ha : 0 ≤ a ∧ a ≤ 100000) : loop f (a, 0) = some (a + Yht l l.length) := by
 obtain ⟨o, e, ho⟩ := Xk8 (f := f) l.length (fun i s => s = a + Yht l i) (by
  intro i s hi g
  have r := Xoz h i (by omega)
  have b := h (l.getD i 0) (by rw [Xe2 l i (by omega)]; exact List.getElem_mem _)
  rw [hf]
  simp only [Int.toNat_natCast]
  rw [syA, rqA, wkA (e := s + l.getD i 0), wkA (e := (i : Int) + 1)]
  exact ⟨_, rfl, by rw [Yht]; omega⟩) (by intro s; rw [hf, Xaw (by simp)]) a (by simp [Yht])
 rw [e, ho]
theorem Xrv {l : List Int} (hl : l.length ≤ 64) (h : ∀ x ∈ l, 0 ≤ x ∧ x ≤ 255) : Xhc l = some (Yht l l.length) := by
 unfold Xhc
 rw [Yd2 (f := Xmy l) hl h (fun _ => rfl) 0 (by omega), Xae, Int.zero_add]
theorem Yjl {e : Xft} (h : Xnu e) : (sel (decide ((Xaa .i64 ((e.Above.length : Int) + (e.Left.length : Int))) > 0)) (bnd (Xhc e.Above) fun q5 => bnd (Xhc e.Left) fun q6 => req ((2 : Int) ≠ 0) <| req ((Xaa .i64 ((e.Above.length : Int) + (e.Left.length : Int))) ≠ 0) <|
  some (Xaa .i64 ((Xaa .i64 ((Xaa .i64 (q5 + q6)) + (Xaa .i64 ((Xaa .i64 ((e.Above.length : Int) + (e.Left.length : Int))).tdiv 2)))).tdiv (Xaa .i64 ((e.Above.length : Int) + (e.Left.length : Int)))))) (some 128)) = Xg6 e := by
 obtain ⟨h1, h2, h3, h4, h5, h6⟩ := h
 unfold Xg6
 have r1 := Xoz h3 e.Above.length (Nat.le_refl _)
 have r2 := Xoz h4 e.Left.length (Nat.le_refl _)
 rw [wkA (e := (e.Above.length : Int) + (e.Left.length : Int))]
 by_cases hz : (e.Above.length : Int) + (e.Left.length : Int) = 0
 ·
  rw [snA, Xhy (by simpa using hz)]
 ·
  rw [syA, Xd0 (by simpa using hz), Xrv (by omega) h3, Xae, Xrv (by omega) h4, Xae, rqA, Xb4 hz, rqA, Xcq (a := (e.Above.length : Int) + (e.Left.length : Int)) (by omega), wkA (e := ((e.Above.length : Int) + (e.Left.length : Int)) / 2),
   Yd2 (f := Xex e) (by omega) h3 (fun _ => rfl) _ (by omega), Xae, Yd2 (f := Xey e) (by omega) h4 (fun _ => rfl) _ (by omega), Xae, Xb4 hz, wkA (e := Yht e.Above e.Above.length + Yht e.Left e.Left.length), wkA (e := Yht e.Above e.Above.length + Yht e.Left e.Left.length + ((e.Above.length : Int) + (e.Left.length : Int)) / 2)]
  congr 3; omega
theorem Ye9 (l : List Int) (hl : l.length = 0 ∨ l.length = 8) : ∃ g, Xir l = some g ∧ g.length = 8 ∧ ∀ k : Nat, k < 8 → Xb8 l k = some (g.getD k 0) := by
 unfold Xir
 rcases hl with e | e
 ·
  refine ⟨_, Xhy (by rw [e]; rfl), rfl, fun k hk => ?_⟩
  unfold Xb8
  rw [Xhy (by rw [e]; rfl)]
  congr 1
  obtain rfl | rfl | rfl | rfl | rfl | rfl | rfl | rfl : k = 0 ∨ k = 1 ∨ k = 2 ∨ k = 3 ∨ k = 4 ∨ k = 5 ∨ k = 6 ∨ k = 7 := by omega
  all_goals rfl
 ·
  refine ⟨l, Xd0 (by rw [e]; rfl), e, fun k hk => ?_⟩
  unfold Xb8
  rw [Xd0 (by rw [e]; rfl), rqA, Int.toNat_natCast]
theorem Ych (n a b : Int) : Xc5 n a b = Xdb n a b := by rw [Xhj, Xd1]
def Xs7 (m mid v : Int) (A B : List Int) (i : Nat) : Int := sel (m == 0) mid (sel (m == 1) (A.getD (i % 8) 0) (sel (m == 2) (B.getD (i / 8) 0) (Xca (Xaa .i64 (Xaa .i64 (B.getD (i / 8) 0 + A.getD (i % 8) 0) - v)) 0 255)))
theorem Yh8 {f1 : Int × List Int → Option (Lp (Int × List Int) (List Int))} {f2 : Int × List Int → Int × List Int → Option (Lp (Int × List Int) (List Int))} (g : Nat → Int)
  (h1 : ∀ v, f1 v = sel (decide (v.1 < 8)) (bnd (loop (f2 v) (0, v.2)) fun w => some (.go (Xaa .i64 (v.1 + 1), w))) (some (.done v.2)))
  (h2 : ∀ (r c : Nat) (a s : List Int), r < 8 → c < 8 → s.length = 8 * r + c → f2 ((r : Int), a) ((c : Int), s) = some (.go (((c + 1 : Nat) : Int), s ++ [g (8 * r + c)])))
  (h3 : ∀ (r : Nat) (a s : List Int), f2 ((r : Int), a) (8, s) = some (.done s)) : loop f1 (0, []) = some ((List.range 64).map g) := by
 obtain ⟨o, e, ho⟩ := Xc3 (f := f1) 8 (fun r s => s = (List.range (8 * r)).map g) (by
  intro r s hr hs
  obtain ⟨q, eq, hq⟩ := Xlk (f := f2 ((r : Int), s)) 8 (fun c s' => s' = (List.range (8 * r + c)).map g) (by
   intro c s' hc hs'
   exact ⟨_, h2 r c s s' hr hc (by rw [hs']; simp), by rw [hs', show 8 * r + (c + 1) = (8 * r + c) + 1 by omega, List.range_succ, List.map_append]; rfl⟩) (fun z _ => h3 r s z) s hs
  rw [h1]
  refine ⟨q, ?_, by rw [hq, show 8 * (r + 1) = 8 * r + 8 by omega]⟩
  simp only
  rw [syA, eq, Xae, wkA]
  rfl) (by intro s; rw [h1, Xaw (by simp)]) [] rfl
 rw [e, ho]
theorem Yd8 (m : Int) (hm0 : 0 ≤ m ∧ m ≤ 3) {e : Xft} (h : Xnu e) : ∃ g, Xd6 m e = some g ∧ Xcb m e = some g := by
 have hm : maxLen = 9223372036854775807 := rfl
 obtain ⟨mid, em, m1, m2⟩ := Xpq h
 obtain ⟨A, eA, hA, fA⟩ := Ye9 e.Above h.1
 obtain ⟨B, eB, hB, fB⟩ := Ye9 e.Left h.2.1
 obtain ⟨v, ev⟩ : ∃ v, sel (decide (e.Corner < 0)) (some (128 : Int)) (some e.Corner) = some v := by rw [Yho]; exact ⟨_, rfl⟩
 refine ⟨(List.range 64).map (Xs7 m mid v A B), ?_, ?_⟩
 ·
  unfold Xd6
  rw [Xw4 h, Xae, Xa5, Xaq, Xae, decide_eq_true hm0, Bool.not_true, Xae, Xaz, Yjl h, em, Xae, eA, Xae, eB, Xae, ev, Xae, Yh8 (f1 := Xjt m mid A B v) (f2 := Xen m mid A B v) (Xs7 m mid v A B) (fun _ => rfl) ?_ ?_, Xae]
  ·
   intro r c a s hr hc hs
   unfold Xen Xs7
   simp only [Int.toNat_natCast, Xhj, Xae]
   rw [syA, wkA (e := (c : Int) + 1), show (8 * r + c) % 8 = c by omega, show (8 * r + c) / 8 = r by omega]
   cases (m == 0) with
   | true => rw [Xa5, Xb4 (by simp only [List.length_singleton]; omega), Xae]; rfl
   | false =>
    rw [Xaz]
    cases (m == 1) with
    | true => rw [Xa5, rqA, Xb4 (by simp only [List.length_singleton]; omega), Xae]; rfl
    | false =>
     rw [Xaz]
     cases (m == 2) with
     | true => rw [Xa5, rqA, Xb4 (by simp only [List.length_singleton]; omega), Xae]; rfl
     | false => rw [Xaz, rqA, rqA, Xb4 (by simp only [List.length_singleton]; omega), Xae]; rfl
  ·
   intro r a s
   unfold Xen
   rw [Xaw (by simp)]
 ·
  unfold Xcb
  rw [Xgw h, Xae, Xa5, Xai, Xae, decide_eq_true hm0, Bool.not_true, Xae, Xaz, ev, Xae]
  obtain ⟨o, eo, ho⟩ := Xc3 (f := Xcc m e v) 64 (fun i s => s = (List.range i).map (Xs7 m mid v A B)) (by
   intro i s hi hs
   have hlen : s.length = i := by rw [hs]; simp
   refine ⟨s ++ [Xs7 m mid v A B i], ?_, by rw [hs, List.range_succ, List.map_append]; rfl⟩
   unfold Xcc Xs7
   simp only
   rw [syA, rqA, Xjg (by omega), show (i : Int) % 8 = ((i % 8 : Nat) : Int) by omega, fA _ (by omega), Xae, rqA, Xcq (by omega), wkA (e := (i : Int) / 8), show (i : Int) / 8 = ((i / 8 : Nat) : Int) by omega, fB _ (by omega), Xae, wkA (e := (i : Int) + 1), em]
   cases (m == 0) with
   | true => rw [Xa5, Xae, Xb4 (by simp only [List.length_singleton]; omega), Xae]; rfl
   | false =>
    rw [Xaz]
    cases (m == 1) with
    | true => rw [Xa5, Xb4 (by simp only [List.length_singleton]; omega), Xae]; rfl
    | false =>
     rw [Xaz]
     cases (m == 2) with
     | true => rw [Xa5, Xb4 (by simp only [List.length_singleton]; omega), Xae]; rfl
     | false => rw [Xaz, Xd1, Xae, Xb4 (by simp only [List.length_singleton]; omega), Xae]; rfl) (by intro s; unfold Xcc; rw [Xaw (by simp)]) [] rfl
  rw [eo, Xae, ho]
theorem Xmp (m : Int) (hm0 : 0 ≤ m ∧ m ≤ 3) {e : Xft} (h : Xnu e) : Xd6 m e = Xcb m e := by
 obtain ⟨g, h1, h2⟩ := Yd8 m hm0 h
 rw [h1, h2]
theorem Xul (g b : List Int) (hg : Xbg g = true) (hl : b.length = 64) (hb : inB 10000000 b) : Xik g b = Xfi g b := by
 obtain ⟨g1, g2⟩ := Xbh hg
 unfold Xik Xfi
 rw [Xes g hg, Xdx g (by omega), hg, Xlx b 64 10000000 (by omega) (by omega) hb, Xbv b 64 10000000 (by omega) (by omega) (by omega) hb]
 have : Xi8 g b = Xdl g b := by
  funext v
  unfold Xi8 Xdl
  simp only [Ych, show ((g.length : Nat) : Int) = 64 by omega]
 simp only [Xae, Xa5, Bool.not_true, Xaz, this]
theorem Yfr {s : Xba} (h : Yb5 s = true) (h1 : s.Kind = 0) : s.Dx = 0 ∧ s.Dy = 0 := by
 unfold Yb5 at h
 rw [h1] at h
 simp at h
 exact ⟨h.2.1, h.2.2.1⟩
theorem Ylf {s : Xba} (h : Yb5 s = true) : (-16 ≤ s.Dx ∧ s.Dx ≤ 16) ∧ (-16 ≤ s.Dy ∧ s.Dy ≤ 16) := by
 have hk := Yfq h
 obtain h1 | h1 | h1 : s.Kind = 0 ∨ s.Kind = 1 ∨ s.Kind = 2 := by omega
 ·
  obtain ⟨a, b⟩ := Yfr h h1; omega
 ·
  obtain ⟨a, b, _⟩ := Yhp h h1; exact ⟨a, b⟩
 ·
  unfold Yb5 at h
  rw [h1] at h
  simp at h
  omega
theorem Yf6 (s : Xba) (c : Cond) : Xe8 s c = some (Yd0 s c) := by
 unfold Xe8 Yd0
 cases c.Key <;> rfl
structure Yon (now ref : Pic) (l t x y : Int) (c : Cond) (q : Xba) : Prop where
 ok : Xe0 now = true
 hx : x.tmod 8 = 0
 hy : y.tmod 8 = 0
 h0 : Xcv now x y = true
 hl : 0 ≤ l ∧ l ≤ 256
 ht : 0 ≤ t ∧ t ≤ 256
 hc : Xla c = true
 hs : q.Levels.length ≤ 1048576
theorem Xw8 {now ref : Pic} {l t x y : Int} {c : Cond} {q : Xba} (h : Yon now ref l t x y c q) (hq : Yb5 q = true) (hL : Yd0 q c = true) (hr : c.Key = false → Xe0 ref = true) : ∃ d, Xdw now ref l t c x y q = some (d, true) ∧ Xfm now ref l t c x y q = some (d, true) ∧ Xbg d = true := by
 obtain ⟨ok, hx, hy, h0, hl, ht, hc, hs⟩ := h
 obtain ⟨k1, k2, k3⟩ := Xcj ok
 have h0' := h0
 unfold Xcv at h0'
 rw [decide_eq_true_eq] at h0'
 have dxy := Ylf hq
 unfold Xfm Xdw
 rw [Xet ok hx hy h0, Xae, Xa5, Xai, Xae, decide_eq_true hl, Xa5, Xai, Xae, decide_eq_true ht, Xa5, Xwb, Xae, hq, Xa5, Xdj, Xae, hc, Bool.not_true, Xae, Xaz]
 rw [Xcn, Xae, ok, Xa5, Xn5 ok hx hy h0, Xae, Xa5, Xaq, Xae, decide_eq_true hl, Xa5, Xaq, Xae, decide_eq_true ht, Xa5, Xvk q (by omega), Xae, hq, Xa5, Xgf, Xae, hc, Xa5, Yf6, Xae, hL, Xa5]
 by_cases h2 : q.Kind = 2
 ·
  obtain ⟨hm, hlv⟩ := Ylg hq h2
  obtain ⟨e, ee, he⟩ := Xoa ok hx hy h0
  obtain ⟨b, eb, b1, b2⟩ := Xlh q.Levels c hc hlv
  obtain ⟨g, eg, hg⟩ := Xh5 q.Mode hm he
  obtain ⟨j, ej, hj⟩ := Xpg g b hg b1 b2
  refine ⟨j, ?_, ?_, hj⟩
  ·
   rw [Xd0 (b := q.Kind != 2) (by simpa using h2), Xae, Xaz, Xd0 (by rw [h2]; rfl), Xm8 q.Levels c hc hlv, eb, Xae, Xd0 (by rw [h2]; rfl), Xqt ok hx hy h0, ee, Xae, Xmp q.Mode hm he, eg, Xae, Xul g b hg b1 b2, ej, Xae]
  ·
   rw [Xhy (by simpa using h2), ee, Xae, eb, Xae, eg, Xae, ej, Xae]
 ·
  have hK : c.Key = false := by
   unfold Yd0 at hL
   cases hk : c.Key with
   | false => rfl
   | true => rw [hk] at hL; simp at hL; exact absurd hL h2
  have rok := hr hK
  rw [Xhy (b := q.Kind != 2) (by simpa using h2), Xcn, Xae, rok, Bool.not_true, Xae, Xaz]
  rw [Xd0 (b := q.Kind == 2) (by simpa using h2), hK, Xaz, Xek, Xae, rok, Bool.not_true, Xae, Xaz]
  rw [wkA (e := l + x), wkA (e := l + x + q.Dx), wkA (e := t + y), wkA (e := t + y + q.Dy), Xh1 rok _ _ (by omega) (by omega), Xae, Xfy rok _ _ (by omega) (by omega), Xae, Xfy rok _ _ (by omega) (by omega)]
  by_cases h3 : q.Kind = 0
  ·
   obtain ⟨z1, z2⟩ := Yfr hq h3
   rw [Xhy (b := q.Kind == 0) (by simpa using h3), Xhy (b := q.Kind == 0) (by simpa using h3), z1, z2, Int.add_zero, Int.add_zero]
   exact ⟨_, rfl, rfl, Xjh _ _ _⟩
  ·
   have h1 : q.Kind = 1 := by have := Yfq hq; omega
   obtain ⟨_, _, hlv⟩ := Yhp hq h1
   obtain ⟨b, eb, b1, b2⟩ := Xlh q.Levels c hc hlv
   obtain ⟨j, ej, hj⟩ := Xpg _ b (Xjh ref (l + x + q.Dx) (t + y + q.Dy)) b1 b2
   rw [Xd0 (b := q.Kind == 0) (by simpa using h3), Xd0 (b := q.Kind == 0) (by simpa using h3), Xm8 q.Levels c hc hlv, eb, Xae, Xae, Xhy (b := q.Kind == 1) (by simpa using h1), Xae, Xul _ b (Xjh _ _ _) b1 b2, ej, Xae]
   exact ⟨_, rfl, rfl, hj⟩
theorem Xok (l : List Int) : Xcu l = some (Xbg l) := by
 unfold Xcu Xbg
 by_cases h : l.length = 64
 ·
  rw [Xd0 (by simp only [bne_eq_false_iff_eq]; omega), Xwu Yf2 l (Xch l) (by
   intro i hi
   unfold Xch
   rw [syA, rqA, Xai, Xae, wkA, Int.toNat_natCast]
   rfl) (by unfold Xch; rw [snA]), Xae, decide_eq_true h, Bool.true_and]
  cases l.all Yf2 <;> rfl
 ·
  rw [Xhy (by simp only [bne_iff_ne, ne_eq]; omega), decide_eq_false h, Bool.false_and]
def Xuy (p : Pic) (x y : Int) : Bool := Xe0 p && (decide (x.tmod 8 = 0) && (decide (y.tmod 8 = 0) && Xcv p x y))
theorem Xzl (p : Pic) (x y : Int) : Xci p x y = some (Xuy p x y) := by
 unfold Xuy
 cases ok : Xe0 p with
 | true =>
  unfold Xci
  rw [rqA, rqA, Xj5 ok, Xae]
  simp only [Ycg, Xg3, Xae, Bool.true_and]
 | false =>
  unfold Xci Xdp
  rw [rqA, rqA, Xek, Xae, ok]
  simp only [Xaz, Xae, Bool.false_and, Ylb]
theorem Xto {p : Pic} (ok : Xe0 p = true) (x y : Int) : Xa6 p x y = some (Xuy p x y) := by
 obtain ⟨k1, k2, k3⟩ := Xcj ok
 unfold Xa6 Xuy
 rw [ok, rqA, rqA, Xaq, Xae, Xaq, Xae, wkA (e := p.Wide - 8), wkA (e := p.High - 8)]
 simp only [Ycg, Xg3, Xae, Bool.true_and]
 unfold Xcv
 have : (decide (0 ≤ x ∧ x ≤ p.Wide - 8) && decide (0 ≤ y ∧ y ≤ p.High - 8)) = decide (0 ≤ x ∧ x ≤ p.Wide - 8 ∧ 0 ≤ y ∧ y ≤ p.High - 8) := by
  rw [Bool.eq_iff_iff]; simp only [Bool.and_eq_true, decide_eq_true_eq]; omega
 rw [this]
theorem Ylq (m : Int) (h : 0 ≤ m ∧ m ≤ 3) : ∃ s, Xio m = some s ∧ Xfn m = some s := by
 have e1 : Xfn m = some (((strOfNums (ueL m.toNat)).size : Nat) : Int) := by
  unfold Xfn Xmh
  rw [Xai, Xae, decide_eq_true (by omega), Bool.not_true, Xaz]
  have : Xi3 m = some (strOfNums (ueL m.toNat)) := by
   have := Xm6 m.toNat (by omega)
   rwa [show ((m.toNat : Nat) : Int) = m by omega] at this
  rw [this, Xae, Xae]
 have e2 : Xio m = some (((strOfNums (ueL m.toNat)).size : Nat) : Int) := by
  unfold Xio Xkf
  rw [Xaq, Xae, decide_eq_true (by omega), Bool.not_true, Xaz]
  have : Xtr m = some (strOfNums (ueL m.toNat)) := by
   have := Ybu m.toNat (by omega)
   rwa [show ((m.toNat : Nat) : Int) = m by omega] at this
  rw [this, Xae, Xae]
 exact ⟨_, e2, e1⟩
theorem Xw3 {w : List Int} (hw : Xbg w = true) {e : Xft} (h : Xnu e) : Xge w e = Xdi w e := by
 have hwl := (Xbh hw).1
 unfold Xge Xdi
 rw [Xw4 h, Xgw h, Xdx w (by omega), Xok, hw]
 have : loop (Xfu w e) (0, -1, 0) = loop (Xb5 w e) (0, -1, 0) := by
  refine Xiw (fun v => 0 ≤ v.2.2 ∧ v.2.2 ≤ 4) ?_ ?_ (by simp)
  ·
   intro ⟨m, c, i⟩ ⟨h1, h2⟩
   simp only at h1 h2
   unfold Xfu Xb5
   simp only
   by_cases hi : i < 4
   ·
    obtain ⟨g, eg, hg⟩ := Xh5 i ⟨h1, by omega⟩ h
    obtain ⟨s, e1, e2⟩ := Ylq i ⟨h1, by omega⟩
    rw [Xck (show i ≤ 3 by omega), Xck hi, Xmp i ⟨h1, by omega⟩ h, eg, Xae, Xae, Xmx hw hg, Xm5 hw hg, Xae, Xae, e1, e2]
   ·
    rw [Xaw (show ¬ i ≤ 3 by omega), Xaw hi]
  ·
   intro ⟨m, c, i⟩ v' ⟨h1, h2⟩ he
   simp only at h1 h2
   unfold Xb5 at he
   rcases Xgv he with ⟨hb, he⟩ | ⟨_, he⟩
   ·
    have hi := of_decide_eq_true hb
    simp only at hi
    obtain ⟨q, _, he⟩ := Xa4 he
    injection he with he
    injection he with he
    subst he
    simp only
    rw [wkA]; omega
   ·
    cases he
 simp only [Xae, Xa5, Bool.not_true, Xaz, this]
theorem Xzu {p : Pic} {w : List Int} {x y r : Int} (ok : Xe0 p = true) (hw : Xbg w = true) (hr : 0 ≤ r ∧ r ≤ 4) (hx : x.tmod 8 = 0) (hy : y.tmod 8 = 0) (h0 : Xcv p x y = true) : Xcm p w x y r = Xf4 p w x y r := by
 obtain ⟨k1, k2, k3⟩ := Xcj ok
 have hwl := (Xbh hw).1
 have h0' := h0
 unfold Xcv at h0'
 rw [decide_eq_true_eq] at h0'
 unfold Xcm Xf4
 rw [Xcn, Xae, ok, Xa5, Xdx w (by omega), Xae, hw, Xa5, Xaq, Xae, decide_eq_true hr, Xa5, Xju ok x y hx hy h0, Xae, Bool.not_true, Xae, Xaz]
 rw [Xes w hw, Xae, Xa5, Xai, Xae, decide_eq_true hr, Xa5, Xet ok hx hy h0, Xae, Bool.not_true, Xae, Xaz, wkA (e := 0 - r)]
 refine Yh3 ?_ fun _ _ => rfl
 refine Xiw (fun s => -r ≤ s.2.2.2 ∧ s.2.2.2 ≤ r + 1) ?_ ?_ (by simp only; omega)
 ·
  intro s ⟨g1, g2⟩
  unfold Xdr Xf5
  refine Xty (fun hs => ?_) fun _ => rfl
  have hs := of_decide_eq_true hs
  rw [wkA (e := 0 - r)]
  refine Yh3 ?_ fun _ _ => rfl
  refine Xiw (fun v => -r ≤ v.2.2.2 ∧ v.2.2.2 ≤ r + 1) ?_ ?_ (by simp only; omega)
  ·
   intro v ⟨f1, f2⟩
   unfold Xb0 Xf6
   refine Xty (fun hv => ?_) fun _ => rfl
   have hv := of_decide_eq_true hv
   rw [wkA (e := x + v.2.2.2), wkA (e := y + s.2.2.2), Xuq ok, Xj5 ok, Xae, Xae]
   refine Yh3 ?_ fun _ _ => rfl
   refine Xty (fun _ => rfl) fun _ => ?_
   have hb := Xjh p (x + v.2.2.2) (y + s.2.2.2)
   rw [Xh1 ok _ _ (by omega) (by omega), Xfy ok _ _ (by omega) (by omega), Xae, Xae, Xm5 hw hb, Xmx hw hb, Xae, Xae, Xpk _ (by omega), Xi9 _ (by omega), Xae, Xae, Xpk _ (by omega), Xi9 _ (by omega), Xae]
  ·
   intro v v' ⟨f1, f2⟩ he
   unfold Xf6 at he
   rcases Xgv he with ⟨hb, he⟩ | ⟨_, he⟩
   ·
    have hi := of_decide_eq_true hb
    obtain ⟨q, _, he⟩ := Xa4 he
    injection he with he
    injection he with he
    subst he
    simp only
    rw [wkA]; omega
   ·
    cases he
 ·
  intro s v' ⟨g1, g2⟩ he
  unfold Xf5 at he
  rcases Xgv he with ⟨hb, he⟩ | ⟨_, he⟩
  ·
   have hi := of_decide_eq_true hb
   obtain ⟨q, _, he⟩ := Xa4 he
   injection he with he
   injection he with he
   subst he
   simp only
   rw [wkA]; omega
  ·
   cases he
def Xqf (a b : List Int) : List Int := (List.range 64).map fun i => a.getD i 0 - b.getD i 0
theorem Xku (a b : List Int) : (Xqf a b).length = 64 := by simp [Xqf]
theorem Yda (a b : List Int) {i : Nat} (hi : i < 64) : (Xqf a b).getD i 0 = a.getD i 0 - b.getD i 0 := Xi6 _ hi
theorem Xwz {a b : List Int} (ha : Xbg a = true) (hb : Xbg b = true) : inB 255 (Xqf a b) := by
 intro x hx
 obtain ⟨i, hi, rfl⟩ := List.mem_map.1 hx
 rw [List.mem_range] at hi
 have p := (Xbh ha).2 i hi
 have q := (Xbh hb).2 i hi
 omega
theorem Ye1 {a b : List Int} (ha : Xbg a = true) (hb : Xbg b = true) {f : Int × List Int → Option (Lp (Int × List Int) (List Int))} (hf : ∀ v, f v = sel (decide (v.1 < 64)) (req (0 ≤ v.1 ∧ v.1 < a.length) <| req (0 ≤ v.1 ∧ v.1 < b.length) <| req ((v.2.length + ([Xaa .i64 ((a.getD v.1.toNat 0) - (b.getD v.1.toNat 0))]).length) * 8 ≤ 140737488355328 ∧ v.2.length + ([Xaa .i64 ((a.getD v.1.toNat 0) - (b.getD v.1.toNat 0))]).length ≤ maxLen) <| some (.go (Xaa .i64 (v.1 + 1), (v.2 ++ ([Xaa .i64 ((a.getD v.1.toNat 0) - (b.getD v.1.toNat 0))]))))) (some (.done v.2))) : loop f (0, []) = some (Xqf a b) := by
 have hm : maxLen = 9223372036854775807 := rfl
 obtain ⟨a1, a2⟩ := Xbh ha
 obtain ⟨b1, b2⟩ := Xbh hb
 have := Ykp (f := f) 64 (fun i => a.getD i 0 - b.getD i 0) [] (by
  intro i hi
  have x := a2 i hi
  have y := b2 i hi
  rw [hf]
  simp only [Int.toNat_natCast]
  rw [syA, rqA, rqA, Xb4 (by simp only [List.length_append, List.length_nil, List.length_map, List.length_range, List.length_singleton]; omega), wkA (e := a.getD i 0 - b.getD i 0), wkA (e := (i : Int) + 1)]
  rfl) (by rw [hf, Xaw (by simp)])
 rw [List.nil_append] at this
 exact this
theorem Xne {a b : List Int} (ha : Xbg a = true) (hb : Xbg b = true) : Xee a b = some (Xqf a b) := by
 have a1 := (Xbh ha).1
 unfold Xee
 rw [Ye1 ha hb (f := Xgt a b) (fun v => by unfold Xgt; rw [show ((a.length : Nat) : Int) = 64 by omega]), Xae]
theorem Xif {a b : List Int} (ha : Xbg a = true) (hb : Xbg b = true) : Xfq a b = some (Xqf a b) := by
 have a1 := (Xbh ha).1
 unfold Xfq
 rw [Ye1 ha hb (f := Xig a b) (fun v => by unfold Xig; rw [show ((a.length : Nat) : Int) = 64 by omega]), Xae]
theorem Xoo (l : List Int) (hl : l.length ≤ 1000000) : Xhg l = some (l.all fun x => x == 0) := by
 unfold Xhg
 rw [Xwu (fun x => x == 0) l (Xfr l) (by
  intro i hi
  unfold Xfr
  rw [syA, rqA, Int.toNat_natCast, wkA]
  rfl) (by unfold Xfr; rw [snA]), Xae]
 cases l.all (fun x => x == 0) <;> rfl
theorem Yky {a b : List Int} (ha : Xbg a = true) (hb : Xbg b = true) : (Xkk a b 64 == 0) = ((Xqf a b).all fun x => x == 0) := by
 have key : ∀ n : Nat, n ≤ 64 → (Xkk a b n = 0 ↔ ∀ i, i < n → a.getD i 0 - b.getD i 0 = 0) := by
  intro n
  induction n with
  | zero => intro _; exact ⟨fun _ i hi => by omega, fun _ => rfl⟩
  | succ n ih =>
   intro hn
   have g := Xg7 ha hb n (by omega)
   have e : Xkk a b (n + 1) = Xkk a b n + Xuo (a.getD n 0 - b.getD n 0) := rfl
   have ab : 0 ≤ Xuo (a.getD n 0 - b.getD n 0) ∧ (Xuo (a.getD n 0 - b.getD n 0) = 0 ↔ a.getD n 0 - b.getD n 0 = 0) := by unfold Xuo; split <;> omega
   rw [e]
   constructor
   ·
    intro h i hi
    rcases Nat.lt_or_ge i n with h1 | h1
    ·
     exact (ih (by omega)).1 (by omega) i h1
    ·
     have : i = n := by omega
     subst this
     exact ab.2.1 (by omega)
   ·
    intro h
    have h1 := (ih (by omega)).2 fun i hi => h i (by omega)
    have h2 := ab.2.2 (h n (by omega))
    omega
 rw [Bool.eq_iff_iff, beq_iff_eq, List.all_eq_true, key 64 (by omega)]
 constructor
 ·
  intro h x hx
  obtain ⟨i, hi, rfl⟩ := List.mem_map.1 hx
  rw [List.mem_range] at hi
  rw [beq_iff_eq]; exact h i hi
 ·
  intro h i hi
  have := h ((Xqf a b).getD i 0) (by rw [Xe2 _ i (by rw [Xku]; exact hi)]; exact List.getElem_mem _)
  rw [beq_iff_eq, Yda a b hi] at this
  exact this
theorem Yh0 (l : List Int) (hl : l.length = 64) : Xa7 l 64 0 0 = some (l.all fun x => x == 0) := by
 rw [Xhp l 64 0 0 (by omega), show ((l.length : Int) == 64) = true by rw [beq_iff_eq]; omega, Bool.and_true]
 congr 2
 funext x
 rw [Bool.eq_iff_iff, decide_eq_true_eq, beq_iff_eq]; omega
structure Yoc (now ref : Pic) (w : List Int) (x y : Int) (c : Cond) (r : Int) : Prop where
 ok : Xe0 now = true
 hx : x.tmod 8 = 0
 hy : y.tmod 8 = 0
 h0 : Xcv now x y = true
 hw : Xbg w = true
 hc : Xla c = true
 hr : 0 ≤ r ∧ r ≤ 4
 hk : c.Key = false → Xe0 ref = true ∧ ref.Wide = now.Wide ∧ ref.High = now.High
inductive Xuk (now ref : Pic) (w : List Int) (x y : Int) (c : Cond) (r : Int) : Xba → Prop
 | same (hK : c.Key = false) (h : ∀ i : Nat, i < 64 → w.getD i 0 = (Xqs ref x y 64).getD i 0) : Xuk now ref w x y c r ⟨0, 0, 0, 0, []⟩
 | still (hK : c.Key = false) (l : List Int) (h : Xbu (Xqf w (Xqs ref x y 64)) c = some (l, true)) (hl : Yao l = true) (hz : ∀ i : Nat, i < 64 → l.getD i 0 = 0) : Xuk now ref w x y c r ⟨0, 0, 0, 0, []⟩
 | move (hK : c.Key = false) (dx dy : Int) (hdx : -r ≤ dx ∧ dx ≤ r) (hdy : -r ≤ dy ∧ dy ≤ r) (hh : Xcv ref (x + dx) (y + dy) = true) (l : List Int) (h : Xbu (Xqf w (Xqs ref (x + dx) (y + dy) 64)) c = some (l, true)) (hl : Yao l = true) (hn : ¬ ∀ i : Nat, i < 64 → w.getD i 0 = (Xqs ref x y 64).getD i 0) : Xuk now ref w x y c r ⟨1, 0, dx, dy, l⟩
 | guess (e : Xft) (he : Xdc now x y = some (e, true)) (hp : Xnu e) (m : Int) (hm : 0 ≤ m ∧ m ≤ 3) (g : List Int) (hg : Xcb m e = some g) (hd : Xbg g = true) (l : List Int) (h : Xbu (Xqf w g) c = some (l, true)) (hl : Yao l = true) (hn : c.Key = false → ¬ ∀ i : Nat, i < 64 → w.getD i 0 = (Xqs ref x y 64).getD i 0) : Xuk now ref w x y c r ⟨2, m, 0, 0, l⟩
theorem Xuk.ok {now ref : Pic} {w : List Int} {x y : Int} {c : Cond} {r : Int} {q : Xba} (hr : 0 ≤ r ∧ r ≤ 4) (h : Xuk now ref w x y c r q) : Yb5 q = true ∧ Yd0 q c = true ∧ q.Levels.length ≤ 64 := by
 cases h with
 | same hK _ => exact ⟨rfl, by unfold Yd0; rw [hK]; rfl, by simp⟩
 | still hK l _ _ _ => exact ⟨rfl, by unfold Yd0; rw [hK]; rfl, by simp⟩
 | move hK dx dy hdx hdy hh l h hl hn => exact ⟨Yj2 (by omega) (by omega) hl, by unfold Yd0; rw [hK]; rfl, by simp only; have := (Xyh hl).1; omega⟩
 | guess e he hp m hm g hg hd l h hl hn => exact ⟨Yio hm hl, by unfold Yd0; simp, by simp only; have := (Xyh hl).1; omega⟩
theorem Yhx {l : List Int} (hl : l.length = 64) : (l.all fun x => x == 0) = true ↔ ∀ i : Nat, i < 64 → l.getD i 0 = 0 := by
 rw [List.all_eq_true]
 constructor
 ·
  intro h i hi
  have := h (l.getD i 0) (by rw [Xe2 l i (by omega)]; exact List.getElem_mem _)
  rwa [beq_iff_eq] at this
 ·
  intro h x hx
  obtain ⟨i, hi, rfl⟩ := List.getElem_of_mem hx
  rw [beq_iff_eq, ← Xe2 l i hi 0]
  exact h i (by omega)
theorem Yb8 {p : Pic} {w : List Int} {x y r : Int} (ok : Xe0 p = true) (hw : Xbg w = true) (hr : 0 ≤ r ∧ r ≤ 4) (hx : x.tmod 8 = 0) (hy : y.tmod 8 = 0) (h0 : Xcv p x y = true) :
  ∃ b, Xcm p w x y r = some b ∧ Xf4 p w x y r = some b ∧ (-r ≤ b.1 ∧ b.1 ≤ r) ∧ (-r ≤ b.2.1 ∧ b.2.1 ≤ r) ∧ Xcv p (x + b.1) (y + b.2.1) = true := by
 obtain ⟨b, e, h1, h2, h3, _⟩ := Xu3 ok hw hr hx hy h0
 exact ⟨b, e, by rw [← Xzu ok hw hr hx hy h0]; exact e, h1, h2, h3⟩
theorem Ycb {now ref : Pic} {w : List Int} {x y : Int} {c : Cond} {r : Int} (H : Yoc now ref w x y c r) : ∃ q d, Xbj now ref w x y c r = some (q, d, true) ∧ Xbr now ref w x y c r = some (q, d, true) ∧ Xuk now ref w x y c r q ∧ Xdw now ref 0 0 c x y q = some (d, true) ∧ Xbg d = true := by
 obtain ⟨ok, hx, hy, h0, hw, hc, hr, hk⟩ := H
 have hwl := (Xbh hw).1
 obtain ⟨e, ee, he⟩ := Xoa ok hx hy h0
 obtain ⟨m, co, eb, hm⟩ := Xt0 hw he
 obtain ⟨g, eg, hg⟩ := Xh5 m hm he
 obtain ⟨l, el, hl⟩ := Xnh (Xqf w g) c hc (Xku w g) (Xwz hw hg)
 have hh := h0
 unfold Xcv at hh
 rw [decide_eq_true_eq] at hh
 obtain ⟨k1, k2, k3⟩ := Xcj ok
 -- the square
 have main : ∃ q, Xuk now ref w x y c r q ∧ Xgr now ref w x y c r = some q ∧
   (sel (!c.Key) (bnd (Xbi ref x y) fun q15 => bnd (Xlc w q15) fun q16 => sel (q16 == 0) (some ((0 : Int), (0 : Int), (0 : Int), (0 : Int), ([] : List Int))) (bnd (Xcm ref w x y r) fun q17 => sel (decide (q17.2.2 ≤ co)) (bnd (Xbi ref (Xaa .i64 (x + q17.1)) (Xaa .i64 (y + q17.2.1))) fun q18 => bnd (Xee w q18) fun q19 => bnd (Xed q19 c) fun q20 =>
    bnd (sel (q17.1 == 0) (sel (q17.2.1 == 0) (bnd (Xa7 q20.1 64 0 0) fun q22 => some q22) (some false)) (some false)) fun v21 => sel v21 (some (0, 0, 0, 0, [])) (some (1, 0, q17.1, q17.2.1, q20.1))) (some (2, m, 0, 0, l)))) (some (2, m, 0, 0, l))) = some (q.Kind, q.Mode, q.Dx, q.Dy, q.Levels) := by
  unfold Xgr
  cases hK : c.Key with
  | true =>
   refine ⟨⟨2, m, 0, 0, l⟩, .guess e ee he m hm g eg hg l el hl (fun h => by rw [hK] at h; cases h), ?_, rfl⟩
   rw [Xa5, Xae, Xaz, ee, Xae, eb, Xae, Bool.not_true]
   simp only [Yjc, Xaz, eg, Xae, Xif hw hg, el]
  | false =>
   obtain ⟨rok, rw', rh⟩ := hk hK
   have hb := Xjh ref x y
   have r0 : Xcv ref x y = true := by unfold Xcv; rw [decide_eq_true_eq, rw', rh]; exact hh
   have gz := Yky hw hb
   have lz := Yhx (Xku w (Xqs ref x y 64))
   rw [Bool.not_false, Xa5, Xaz, Xfy rok x y (by omega) (by omega), Xae, Xmx hw hb, Xae, Xh1 rok x y (by omega) (by omega), Xae, Xif hw hb, Xae, Xoo _ (by rw [Xku]; omega), Xae, Xae, gz]
   cases hz : ((Xqf w (Xqs ref x y 64)).all fun x => x == 0) with
   | true =>
    refine ⟨⟨0, 0, 0, 0, []⟩, .same hK fun i hi => ?_, rfl, rfl⟩
    have := lz.1 hz i hi
    rw [Yda _ _ hi] at this; omega
   | false =>
    have hne : ¬ ∀ i : Nat, i < 64 → w.getD i 0 = (Xqs ref x y 64).getD i 0 := fun hall => by
     have := lz.2 fun i hi => by rw [Yda _ _ hi, hall i hi]; omega
     rw [hz] at this; cases this
    obtain ⟨b, bi, bs, b1, b2, b3⟩ := Yb8 rok hw hr hx hy r0
    rw [Xaz, Xaz, ee, Xae, eb, Xae, bi, Xae]
    simp only [Yjc, Xa5, bs, Xae]
    by_cases hco : b.2.2 ≤ co
    ·
     have hb2 := Xjh ref (x + b.1) (y + b.2.1)
     obtain ⟨l2, el2, hl2⟩ := Xnh (Xqf w (Xqs ref (x + b.1) (y + b.2.1) 64)) c hc (Xku _ _) (Xwz hw hb2)
     have hl2n := (Xyh hl2).1
     rw [Xck hco, Xck hco, wkA (e := x + b.1), wkA (e := y + b.2.1), Xh1 rok _ _ (by omega) (by omega), Xfy rok _ _ (by omega) (by omega), Xae, Xae, Xne hw hb2, Xif hw hb2, Xae, Xae, Xo1 _ c hc (Xku _ _) (Xwz hw hb2), el2, Xae, Xae, Yh0 l2 hl2n, Xae, Xoo l2 (by omega), Xae]
     simp only [Xg3, Xae]
     cases hst : (b.1 == 0 && (b.2.1 == 0 && l2.all fun x => x == 0)) with
     | true =>
      simp only [Bool.and_eq_true, beq_iff_eq] at hst
      obtain ⟨z1, z2, z3⟩ := hst
      rw [z1, z2, Int.add_zero, Int.add_zero] at el2
      exact ⟨⟨0, 0, 0, 0, []⟩, .still hK l2 el2 hl2 ((Yhx hl2n).1 z3), rfl, rfl⟩
     | false => exact ⟨⟨1, 0, b.1, b.2.1, l2⟩, .move hK b.1 b.2.1 b1 b2 b3 l2 el2 hl2 hne, rfl, rfl⟩
    ·
     rw [Xaw hco, Xaw hco]
     refine ⟨⟨2, m, 0, 0, l⟩, .guess e ee he m hm g eg hg l el hl (fun _ => hne), ?_, rfl⟩
     simp only [eg, Xae, Xif hw hg, el]
 obtain ⟨q, hq, es, ei⟩ := main
 obtain ⟨q1, q2, q3⟩ := hq.ok hr
 obtain ⟨d, di, ds, hd⟩ := Xw8 (now := now) (ref := ref) (l := 0) (t := 0) (x := x) (y := y) (c := c) (q := q) ⟨ok, hx, hy, h0, by omega, by omega, hc, by omega⟩ q1 q2 (fun h => (hk h).1)
 refine ⟨q, d, ?_, ?_, hq, di, hd⟩
 ·
  unfold Xbj
  have hl7 : (sel c.Key (some false) (bnd (Xdu ref) fun q8 => sel q8 (sel (ref.Wide != now.Wide) (some true) (some (ref.High != now.High))) (some true))) = some false := by
   cases hK : c.Key with
   | true => rfl
   | false =>
    obtain ⟨a1, a2, a3⟩ := hk hK
    rw [Xaz, Xcn, Xae, a1, a2, a3, Xa5, bne_self_eq_false, Xaz, bne_self_eq_false]
  rw [Xcn, Xae, ok, Xa5, Xn5 ok hx hy h0, Xae, Xa5, Xdx w (by omega), Xae, hw, Xa5, Xgf, Xae, hc, Xa5, Xaq, Xae, decide_eq_true hr, Bool.not_true, Xae, Xaz, hl7, Xae, Xaz, Xqt ok hx hy h0, ee, Xae, Xw3 hw he, eb, Xae, Xmp m hm he, eg, Xae, Xne hw hg, Xae, Xo1 _ c hc (Xku _ _) (Xwz hw hg), el, Xae]
  simp only
  rw [ei, Xae]
  simp only
  rw [show (⟨q.Kind, q.Mode, q.Dx, q.Dy, q.Levels⟩ : Xba) = q from rfl, di, Xae]
  rfl
 ·
  unfold Xbr
  have hl7 : (sel c.Key (some false) (bnd (Xhf now ref) fun q6 => some (!q6))) = some false := by
   cases hK : c.Key with
   | true => rfl
   | false =>
    obtain ⟨a1, a2, a3⟩ := hk hK
    rw [Xaz, Xom, Xae, Yk0 ok a1 a2 a3]; rfl
  rw [Xet ok hx hy h0, Xae, Xa5, Xes w hw, Xae, Xa5, Xdj, Xae, hc, Xa5, Xai, Xae, decide_eq_true hr, Xa5, hl7, Xae, Xaz, es, Xae, ds, Xae]
theorem Xzx (now ref : Pic) (w : List Int) (x y : Int) (c : Cond) (r : Int) (hwl : w.length ≤ 1048576) : (∃ q d, Xbj now ref w x y c r = some (q, d, true) ∧ Xbr now ref w x y c r = some (q, d, true) ∧ q.Levels.length ≤ 64 ∧ d.length = 64) ∨ (Xbj now ref w x y c r = some (⟨0, 0, 0, 0, []⟩, [], false) ∧ Xbr now ref w x y c r = some (⟨0, 0, 0, 0, []⟩, [], false)) := by
 by_cases H : Yoc now ref w x y c r
 ·
  obtain ⟨q, d, e1, e2, hq, _, hd⟩ := Ycb H
  exact .inl ⟨q, d, e1, e2, (hq.ok H.hr).2.2, (Xbh hd).1⟩
 ·
  refine .inr ?_
  have hi : Xbj now ref w x y c r = some (⟨0, 0, 0, 0, []⟩, [], false) := by
   unfold Xbj
   rw [Xcn, Xae]
   cases ok : Xe0 now with
   | false => rfl
   | true =>
    rw [Xa5, Xto ok, Xae]
    cases hf : Xuy now x y with
    | false => rfl
    | true =>
     rw [Xa5, Xdx w (by omega), Xae]
     cases hw : Xbg w with
     | false => rfl
     | true =>
      rw [Xa5, Xgf, Xae]
      cases hc : Xla c with
      | false => rfl
      | true =>
       rw [Xa5, Xaq, Xae]
       by_cases hr : 0 ≤ r ∧ r ≤ 4
       ·
        rw [decide_eq_true hr, Bool.not_true, Xae, Xaz]
        unfold Xuy at hf
        simp only [Bool.and_eq_true, decide_eq_true_eq] at hf
        obtain ⟨_, f1, f2, f3⟩ := hf
        cases hK : c.Key with
        | true => exact absurd ⟨ok, f1, f2, f3, hw, hc, hr, fun h => by rw [hK] at h; cases h⟩ H
        | false =>
         rw [Xaz, Xcn, Xae]
         cases rok : Xe0 ref with
         | false => rfl
         | true =>
          rw [Xa5]
          by_cases a : ref.Wide = now.Wide
          ·
           by_cases b : ref.High = now.High
           ·
            exact absurd ⟨ok, f1, f2, f3, hw, hc, hr, fun _ => ⟨rok, a, b⟩⟩ H
           ·
            rw [Xd0 (b := ref.Wide != now.Wide) (by simpa using a), show (ref.High != now.High) = true by simpa using b]; rfl
          ·
           rw [Xhy (b := ref.Wide != now.Wide) (by simpa using a)]; rfl
       ·
        rw [decide_eq_false hr]; rfl
  have hs : Xbr now ref w x y c r = some (⟨0, 0, 0, 0, []⟩, [], false) := by
   unfold Xbr
   rw [Xzl, Xae]
   cases hf : Xuy now x y with
   | false => rfl
   | true =>
    rw [Xa5, Xok, Xae]
    cases hw : Xbg w with
    | false => rfl
    | true =>
     rw [Xa5, Xdj, Xae]
     cases hc : Xla c with
     | false => rfl
     | true =>
      rw [Xa5, Xai, Xae]
      by_cases hr : 0 ≤ r ∧ r ≤ 4
      ·
       rw [decide_eq_true hr, Xa5]
       unfold Xuy at hf
       simp only [Bool.and_eq_true, decide_eq_true_eq] at hf
       obtain ⟨ok, f1, f2, f3⟩ := hf
       cases hK : c.Key with
       | true => exact absurd ⟨ok, f1, f2, f3, hw, hc, hr, fun h => by rw [hK] at h; cases h⟩ H
       | false =>
        rw [Xaz, Xom, Xae]
        cases hl : Ygc now ref with
        | false => rfl
        | true =>
         obtain ⟨a1, a2, a3⟩ := Ygd hl
         exact absurd ⟨ok, f1, f2, f3, hw, hc, hr, fun _ => ⟨a1, a2, a3⟩⟩ H
      ·
       rw [decide_eq_false hr]; rfl
  exact ⟨hi, hs⟩
theorem Xrx (q : Xba) (h : q.Levels.length ≤ 9223372036854775806) : Xeg q q = some true := by
 unfold Xeg
 simp only [Xjw _ h, Xae, bne_self_eq_false, Xaz, Bool.not_true]
theorem FnExactSquareFor {p0 p1 : Pic} {p2 : List Int} {p3 p4 : Int} {p5 : Cond} {p6 : Int} (h0 : Ymo p0) (h1 : Ymo p1) (h2 : p2.length ≤ maxLen ∧ ∀ y ∈ p2, (Lit.int .i64 y).wf = true) (h3 : (Lit.int .i64 p3).wf = true) (h4 : (Lit.int .i64 p4).wf = true) (h5 : Yl2 p5) (h6 : (Lit.int .i64 p6).wf = true) : Xda p0 p1 p2 p3 p4 p5 p6 = some true := by
 have hm : maxLen = 9223372036854775807 := rfl
 unfold Xda
 by_cases hl : (p2.length : Int) > 1048576
 ·
  rw [Xck hl]
 rw [Xaw hl]
 have d0 : p0.Dots.size ≤ maxLen := h0.2.2
 have d1 : p1.Dots.size ≤ maxLen := h1.2.2
 rw [Xr0 p0 1048576 d0 (by omega) (by omega), Xae]
 by_cases hz : (1048576 : Int) < p0.Dots.size
 ·
  rw [if_pos hz, syA]
 rw [if_neg hz, snA, Xr0 p1 _ d1 (by omega) (by omega), Xae]
 by_cases hz1 : 1048576 - (p0.Dots.size : Int) < p1.Dots.size
 ·
  rw [if_pos hz1, syA]
 rw [if_neg hz1, snA]
 obtain ⟨q, d, b, ei, es, hq, hd⟩ : ∃ q d b, Xbj p0 p1 p2 p3 p4 p5 p6 = some (q, d, b) ∧ Xbr p0 p1 p2 p3 p4 p5 p6 = some (q, d, b) ∧ q.Levels.length ≤ 64 ∧ d.length ≤ 64 := by
  rcases Xzx p0 p1 p2 p3 p4 p5 p6 (by omega) with ⟨q, d, e1, e2, a, b⟩ | ⟨e1, e2⟩
  ·
   exact ⟨q, d, true, e1, e2, a, by omega⟩
  ·
   exact ⟨_, _, _, e1, e2, by simp, by simp⟩
 simp only [Xf0, Xiv, Yal p2 (by omega), Xae, ei, es, Xrx q (by omega), Xjw d (by omega), Xjw p2 (by omega), Xa5, beq_self_eq_true, Bool.not_true, Xaz]
 rw [Xj1 p2 1 (by omega) (by omega) (by omega), Xae]
 simp only
 rw [snA, Xae, Xaz]
 unfold Xhv
 rw [Xj1 q.Levels 1 (by omega) (by omega) (by omega), Xae, Xae]
 simp only
 rw [Xj1 d (1 + (q.Levels.length : Int)) (by omega) (by omega) (by omega), Xae]
 simp only
 unfold Xfb
 simp only
 rw [Xjz q.Levels 1 (by omega) (by omega) (by omega), Xae, snA, Xae, snA, Xjz d (1 + (q.Levels.length : Int)) (by omega) (by omega) (by omega), Xae, snA, bne_self_eq_false, Xaz, Xae, snA, Xjz d (1 + (q.Levels.length : Int)) (by omega) (by omega) (by omega), Xae, snA, bne_self_eq_false, Xaz]
end Go.Proofs.YtlebkepfhdjnmadGreat.A.Pure
