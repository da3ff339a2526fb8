/- The pure statement of the law FnExactTileFor: over numbers, texts and lists alone, what the law computes is true. Conditions: the sizes of what a machine holds. -/
import Derived.Test.YthpkcbplfbokcaaGreatDFnExactTileFor
namespace Go.Proofs.YthpkcbplfbokcaaGreat.A.Pure
open Go Go.Proofs Go.Proofs.YthpkcbplfbokcaaGreatAL Go.RowKit
set_option linter.unusedVariables false
set_option linter.unusedSimpArgs false
set_option maxHeartbeats 1000000
theorem Xad {α β : Type} (a : α) (f : α → Option β) : bnd (some a) f = f a := rfl
theorem Xkv {α β : Type} {x : Option α} {a : α} {f : α → Option β} (h : x = some a) : bnd x f = f a := by subst h; rfl
theorem Xaz {β : Type} (x y : β) : sel true x y = x := rfl
theorem Xay {β : Type} (x y : β) : sel false x y = y := rfl
theorem Yph {β : Type} (b : Bool) (x y : β) : sel (!b) x y = sel b y x := by cases b <;> rfl
theorem Xgt (b x : Bool) : sel b (some x) (some false) = some (b && x) := by cases b <;> rfl
theorem Yk5 (b x : Bool) : sel b (some true) (some x) = some (b || x) := by cases b <;> rfl
theorem Yjx (b x : Bool) : sel b (some x) (some true) = some (!b || x) := by cases b <;> rfl
theorem Ypi (b x : Bool) : sel b (some false) (some x) = some (!b && x) := by cases b <;> rfl
theorem Yk6 {β : Type} (b : Bool) (x y : β) : sel b (some x) (some y) = some (sel b x y) := by cases b <;> rfl
theorem Ygf {β : Type} (b : Bool) (x y : β) : sel b x y = if b = true then x else y := by cases b <;> rfl
theorem Yjw {β : Type} (p : Prop) [Decidable p] (x y : β) : sel (decide p) x y = if p then x else y := by
 by_cases h : p <;> simp [h, sel]
theorem Xhj {β : Type} {b : Bool} {x y : β} (h : b = true) : sel b x y = x := by subst h; rfl
theorem Xc5 {β : Type} {b : Bool} {x y : β} (h : b = false) : sel b x y = y := by subst h; rfl
theorem Xbu {β : Type} {p : Prop} [Decidable p] {x y : β} (h : p) : sel (decide p) x y = x := by simp [h, sel]
theorem Xav {β : Type} {p : Prop} [Decidable p] {x y : β} (h : ¬ p) : sel (decide p) x y = y := by simp [h, sel]
theorem Xbn {β : Type} {c : Prop} [Decidable c] {k : Option β} (h : c) : req c k = k := if_pos h
theorem wk {e : Int} (h1 : -9223372036854775808 ≤ e) (h2 : e ≤ 9223372036854775807) : Xaa .i64 e = e := by
 show wrap64 e = e
 unfold wrap64; omega
theorem rqA {β : Type} {c : Prop} [Decidable c] {k : Option β} (h : c := by omega) : req c k = k := Xbn h
theorem syA {β : Type} {c : Prop} [Decidable c] {x y : β} (h : c := by omega) : sel (decide c) x y = x := Xbu h
theorem snA {β : Type} {c : Prop} [Decidable c] {x y : β} (h : ¬ c := by omega) : sel (decide c) x y = y := Xav h
theorem wkA {e : Int} (h1 : -9223372036854775808 ≤ e := by omega) (h2 : e ≤ 9223372036854775807 := by omega) : Xaa .i64 e = e := wk h1 h2
theorem w8 {e : Int} (h1 : 0 ≤ e) (h2 : e ≤ 255) : Xaa .u8 e = e := by
 show IntKind.wrap .u8 e = e
 simp [IntKind.wrap, IntKind.signed, IntKind.bits]; omega
theorem Xc7 {a b : Int} (h : 0 ≤ a) : Int.tmod a b = a % b := Int.tmod_eq_emod_of_nonneg h
theorem Xcr {a b : Int} (h : 0 ≤ a) : Int.tdiv a b = a / b := Int.tdiv_eq_ediv_of_nonneg h
theorem Xio {P : Nat → Prop} (n : Nat) (h0 : P n) (hs : ∀ i, i < n → P (i + 1) → P i) : ∀ i, i ≤ n → P i := by
 intro i hi
 obtain ⟨k, rfl⟩ : ∃ k, n = i + k := ⟨n - i, by omega⟩
 clear hi
 induction k generalizing i with
 | zero => exact h0
 | succ k ih =>
  refine hs i (by omega) ?_
  exact ih (i + 1) (by rw [show i + 1 + k = i + (k + 1) by omega]; exact h0) (fun j hj => hs j (by omega))
theorem lgo {V O : Type} {f : V → Option (Lp V O)} {x y : V} {r : Option O} (h : f x = some (.go y)) (k : loop f y = r) : loop f x = r := by rw [Yf5 h]; exact k
theorem Xj0 {V O : Type} {f : V → Option (Lp V O)} {x : V} {o : O} (h : f x = some (.done o)) : loop f x = some o := Xpv h
theorem Xod {V O : Type} {f : V → Option (Lp V O)} (I : V → Prop) (m : V → Nat) (Q : V → O → Prop) (h : ∀ v, I v → (∃ o, f v = some (.done o) ∧ Q v o) ∨ ∃ v', f v = some (.go v') ∧ I v' ∧ m v' < m v ∧ ∀ o, Q v' o → Q v o) : ∀ v, I v → ∃ o, loop f v = some o ∧ Q v o := by
 intro v
 generalize hn : m v = n
 induction n using Nat.strongRecOn generalizing v with
 | _ n ih =>
  intro hv
  rcases h v hv with ⟨o, h1, h2⟩ | ⟨v', h1, h2, h3, h4⟩
  ·
   exact ⟨o, Xpv h1, h2⟩
  ·
   obtain ⟨o, h5, h6⟩ := ih (m v') (by omega) v' rfl h2
   exact ⟨o, by rw [Yf5 h1]; exact h5, h4 o h6⟩
theorem Xff {α : Type} (l : List α) (i : Nat) (h : i < l.length) (d : α) : l.getD i d = l[i] := by
 simp [List.getD_eq_getElem?_getD, List.getElem?_eq_getElem h]
theorem Xar (a b c : Int) : Xaq a b c = some (decide (b ≤ a ∧ a ≤ c)) := by
 unfold Xaq
 by_cases h : b ≤ a <;> simp [bnd, sel, h]
theorem Xai (a b c : Int) : Xat a b c = some (decide (b ≤ a ∧ a ≤ c)) := by
 unfold Xat
 by_cases h : b ≤ a <;> simp [bnd, sel, h]
theorem Ygg {α : Type} (a : List α) (x y : α) (b : List α) : (a ++ x :: b).set a.length y = a ++ y :: b := by
 induction a with
 | nil => rfl
 | cons z a ih => simp only [List.cons_append, List.length_cons, List.set_cons_succ, ih]
theorem Xzc {α : Type} (a : List α) (x d : α) (b : List α) : (a ++ x :: b).getD a.length d = x := by
 induction a with
 | nil => rfl
 | cons z a ih => simp
theorem Xpy {f : Int → Option (Lp Int (Ou Unit Bool))} (n : Nat) (h : ∀ i : Nat, i < n → f i = some (.go ((i + 1 : Nat) : Int))) (h0 : f n = some (.done (.out ()))) : loop f 0 = some (.out ()) :=
 Xio (P := fun i => loop f (i : Int) = some (.out ())) n (Xpv h0) (fun i hi ih => by rw [Yf5 (h i hi)]; exact ih) 0 (by omega)
def Xcg (n a b : Int) : Int := if b < a ∨ n < a then a else if n > b then b else n
theorem Xiq (n a b : Int) : Xd0 n a b = some (Xcg n a b) := by
 unfold Xd0 Xcg
 congr 1
 repeat' split
 all_goals omega
theorem Xlg {n a b : Int} (h : a ≤ b) : a ≤ Xcg n a b ∧ Xcg n a b ≤ b := by
 unfold Xcg
 repeat' split
 all_goals omega
theorem Xe1 (n a b : Int) : Xd9 n a b = some (Xcg n a b) := by
 unfold Xd9 Xcg
 rw [Yk5, Xad]
 by_cases h : b < a ∨ n < a
 ·
  rw [if_pos h, Xhj (by simpa using h)]
 ·
  rw [if_neg h, Xc5 (by simp; omega), Yjw]; split <;> rfl
def Xb1 (p : Pic) : Bool := decide (1 ≤ p.Wide ∧ p.Wide ≤ 256) && (decide (1 ≤ p.High ∧ p.High ≤ 256) && ((p.Dots.size : Int) == p.Wide * p.High))
theorem Xfz {w h : Int} (h1 : 1 ≤ w ∧ w ≤ 256) (h2 : 1 ≤ h ∧ h ≤ 256) : 1 ≤ w * h ∧ w * h ≤ 65536 := by
 have a : w * 1 ≤ w * h := Int.mul_le_mul_of_nonneg_left h2.1 (by omega)
 have b : w * h ≤ 256 * h := Int.mul_le_mul_of_nonneg_right h1.2 (by omega)
 omega
theorem Xcn (p : Pic) : Xe5 p = some (Xb1 p) := by
 unfold Xe5 Xb1
 simp only [Xai, Xad, Xgt]
 by_cases h1 : 1 ≤ p.Wide ∧ p.Wide ≤ 256
 ·
  by_cases h2 : 1 ≤ p.High ∧ p.High ≤ 256
  ·
   have := Xfz h1 h2
   rw [wkA]
  ·
   rw [decide_eq_false h2, Bool.false_and, Bool.false_and]
 ·
  rw [decide_eq_false h1, Bool.false_and, Bool.false_and]
theorem Xb3 (p : Pic) : Xcz p = some (Xb1 p) := by
 unfold Xcz Xb1
 simp only [Xar, Xad, Xgt]
 by_cases h1 : 1 ≤ p.Wide ∧ p.Wide ≤ 256
 ·
  by_cases h2 : 1 ≤ p.High ∧ p.High ≤ 256
  ·
   have := Xfz h1 h2
   rw [wkA]
  ·
   rw [decide_eq_false h2, Bool.false_and, Bool.false_and]
 ·
  rw [decide_eq_false h1, Bool.false_and, Bool.false_and]
theorem Xxs (l : List Int) (hl : l.length ≤ 9223372036854775806) : Xlw l l = some true := by
 unfold Xlw
 rw [Xc5 (by simp), Xpy l.length (f := Xhs l l) (by
  intro i hi
  unfold Xhs
  rw [syA, rqA, rqA, Xc5 (by simp), wkA]
  rfl) (by unfold Xhs; rw [snA])]
 rfl
def Xpw (k : Int) : List Int → List Int
 | [] => []
 | _ :: r => k :: Xpw (k + 1) r
theorem Yh4 : ∀ (l : List Int) (k : Int), (Xpw k l).length = l.length
 | [], _ => rfl
 | _ :: r, k => by rw [Xpw, List.length_cons, List.length_cons, Yh4 r]
theorem Xxx (l : List Int) (k : Int) (h0 : 0 < k) (h1 : k ≤ 1000000000) (hl : l.length ≤ 100000000) : Xi2 l k = some (k + l.length, Xpw k l) := by
 unfold Xi2
 have key : ∀ (r a : List Int) (j : Int), 0 < j → j + r.length ≤ 2000000000 → a.length + r.length ≤ 100000000 → loop Xfu (j, (a.length : Int), a ++ r) = some (j + r.length, a ++ Xpw j r) := by
  intro r
  induction r with
  | nil =>
   intro a j hj1 hj2 hl
   refine Xj0 ?_
   unfold Xfu
   simp only [List.append_nil]
   rw [snA]
   simp [Xpw]
  | cons p r ih =>
   intro a j hj1 hj2 hl
   simp only [List.length_cons] at hj2 hl ⊢
   have hcl : ∀ x : Int, (a ++ x :: r).length = a.length + (r.length + 1) := fun x => by simp
   refine lgo (y := (j + 1, ((a ++ [j]).length : Int), (a ++ [j]) ++ r)) ?_ ?_
   ·
    unfold Xfu
    simp only [Int.toNat_natCast, Ygg, hcl]
    rw [syA, rqA, rqA, wkA (e := j + 1), wkA]
    simp
   ·
    rw [ih _ (j + 1) (by omega) (by omega) (by simp; omega)]
    simp only [Xpw, List.append_assoc, List.singleton_append]
    congr 2
    omega
 have := key l [] k h0 (by omega) (by simp; omega)
 simp only [List.length_nil, List.nil_append] at this
 rw [show ((k, 0, l) : Int × Int × List Int) = (k, ((0 : Nat) : Int), l) from rfl, this]
 rfl
theorem Xxv (l : List Int) (k : Int) (h0 : 0 < k) (h1 : k ≤ 1000000000) (hl : l.length ≤ 100000000) : Xi1 (Xpw k l) k = some (k + l.length) := by
 unfold Xi1
 have key : ∀ (r a : List Int) (j : Int), 0 < j → j + r.length ≤ 2000000000 → a.length + r.length ≤ 100000000 → loop (Xft (a ++ Xpw j r)) (j, (a.length : Int)) = some (.out (j + r.length)) := by
  intro r
  induction r with
  | nil =>
   intro a j hj1 hj2 hl
   refine Xj0 ?_
   unfold Xft
   simp only [Xpw, List.append_nil]
   rw [snA]
   simp
  | cons p r ih =>
   intro a j hj1 hj2 hl
   simp only [List.length_cons] at hj2 hl ⊢
   have hcl : ∀ (x : Int) (r : List Int), (a ++ x :: r).length = a.length + (r.length + 1) := fun x r => by simp
   refine lgo (y := (j + 1, ((a ++ [j]).length : Int))) ?_ ?_
   ·
    unfold Xft
    simp only [Xpw, Int.toNat_natCast, Xzc, hcl, Yh4]
    rw [syA, rqA, Xc5 (by simp), wkA (e := j + 1), wkA]
    simp
   ·
    have := ih (a ++ [j]) (j + 1) (by omega) (by omega) (by simp; omega)
    simp only [Xpw]
    rw [List.append_assoc, List.singleton_append] at this
    rw [this]
    congr 2
    omega
 have := key l [] k h0 (by omega) (by simp; omega)
 simp only [List.length_nil, List.nil_append] at this
 rw [show ((k, 0) : Int × Int) = (k, ((0 : Nat) : Int)) from rfl, this]
 rfl
theorem Yaz (p : Pic) : Xlj p p = some true := by
 unfold Xlj
 simp only [bne_self_eq_false, Xay, beq_self_eq_true, Bool.not_true]
theorem Yey (a b : List Int) : strOfNums a ++ strOfNums b = strOfNums (a ++ b) := by
 unfold strOfNums
 rw [List.map_append]
 apply ByteArray.ext
 simp
theorem Yq5 : (⟨#[]⟩ : ByteArray) = strOfNums [] := rfl
def Ymr (l : List Int) : Prop := ∀ x ∈ l, 0 ≤ x ∧ x ≤ 255
theorem Ypy (l : List Int) (h : Ymr l) (i : Nat) (hi : i < l.length) : Yi5 (strOfNums l) (i : Int) = l.getD i 0 := by
 unfold Yi5
 rw [dif_pos (by rw [Int.toNat_natCast, strOfNums_size]; exact hi)]
 have hx := h l[i] (List.getElem_mem hi)
 rw [Xff l i hi]
 show ((((l.map fun n => UInt8.ofNat n.toNat).toArray)[(i : Int).toNat]'(by simpa using hi)).toNat : Int) = _
 simp only [Int.toNat_natCast, List.getElem_toArray, List.getElem_map, UInt8.toNat_ofNat']
 omega
theorem Ysl (y : Int) : IntKind.wrap .i64 (BitVec.ofInt (IntKind.bits .i64) y &&& BitVec.ofInt (IntKind.bits .i64) 1).toNat = y % 2 := by
 have h : (BitVec.ofInt 64 y &&& BitVec.ofInt 64 1).toNat = (y % 2).toNat := by
  rw [BitVec.toNat_and]
  have e1 : (BitVec.ofInt 64 1).toNat = 1 := by decide
  rw [e1, Nat.and_one_is_mod, BitVec.toNat_ofInt]
  omega
 show IntKind.wrap .i64 ((BitVec.ofInt 64 y &&& BitVec.ofInt 64 1).toNat : Int) = _
 rw [h, ← Xu1, wkA]
 omega
def Yp3 : Nat → Int → List Int
 | 0, _ => []
 | w + 1, n => Yp3 w (n / 2) ++ [48 + n % 2]
theorem Yl6 (w : Nat) : ∀ (k : Nat) (n : Int) (s : List Int), 0 ≤ n → n ≤ 9223372036854775807 → k + s.length ≤ 100000 → loop Xiz (n, (k : Int) - 1, List.replicate k 0 ++ s) = some (Yp3 k n ++ s) := by
 intro k
 induction k with
 | zero =>
  intro n s h0 h1 hl
  refine Xj0 ?_
  unfold Xiz
  simp only
  rw [snA]
  simp [Yp3]
 | succ k ih =>
  intro n s h0 h1 hl
  have e1 : List.replicate (k + 1) (0 : Int) ++ s = List.replicate k 0 ++ 0 :: s := by rw [List.replicate_succ', List.append_assoc]; rfl
  have e2 := Ygg (List.replicate k (0 : Int)) 0 (48 + n % 2) s
  rw [List.length_replicate] at e2
  refine lgo (y := (n / 2, (k : Int) - 1, List.replicate k 0 ++ (48 + n % 2) :: s)) ?_ ?_
  ·
   unfold Xiz
   have e3 : (((k + 1 : Nat) : Int) - 1).toNat = k := by omega
   simp only [e1, e3]
   rw [syA, Xbn (by simp; omega), Xbn (by simp), Xbn (by decide), Ysl, wkA (e := 48 + n % 2), w8 (by omega) (by omega), e2, wkA]
   rw [show ((k + 1 : Nat) : Int) - 1 - 1 = (k : Int) - 1 by omega]
   rfl
  ·
   rw [ih (n / 2) ((48 + n % 2) :: s) (by omega) (by omega) (by simp; omega), Yp3, List.append_assoc]; rfl
theorem Yfp (n : Int) (w : Nat) (h0 : 0 ≤ n) (h1 : n ≤ 9223372036854775807) (hw : w ≤ 1000) : Xnb n (w : Int) = some (strOfNums (Yp3 w n)) := by
 unfold Xnb
 rw [rqA, wkA, Int.toNat_natCast]
 have := Yl6 w w n [] h0 h1 (by simp; omega)
 rw [List.append_nil, List.append_nil] at this
 rw [this, Xad]
def Xzb (m : Nat) : Nat := if h : m = 0 then 0 else Xzb (m / 2) + 1
termination_by m
decreasing_by omega
def Yoi (m : Nat) : List Int := if h : m = 0 then [] else Yoi (m / 2) ++ [48 + ((m % 2 : Nat) : Int)]
termination_by m
decreasing_by omega
theorem Yka (m : Nat) : (Yoi m).length = Xzb m := by
 induction m using Nat.strongRecOn with
 | _ m ih =>
  rw [Yoi, Xzb]
  by_cases h : m = 0
  ·
   rw [dif_pos h, dif_pos h]; rfl
  ·
   rw [dif_neg h, dif_neg h, List.length_append, ih (m / 2) (by omega)]; rfl
theorem Yja {m j : Nat} (h : m < 2 ^ j) : Xzb m ≤ j := by
 induction j generalizing m with
 | zero => rw [Xzb, dif_pos (by simp at h; omega)]; omega
 | succ j ih =>
  rw [Xzb]
  split
  ·
   omega
  ·
   have := ih (m := m / 2) (by rw [Nat.pow_succ] at h; omega)
   omega
theorem Yfb {m : Nat} (h : 0 < m) : 1 ≤ Xzb m := by rw [Xzb, dif_neg (by omega)]; omega
theorem Yoy (z m : Nat) : Yp3 (Xzb m + z) m = List.replicate z 48 ++ Yoi m := by
 induction m using Nat.strongRecOn with
 | _ m ih =>
  rw [Yoi, Xzb]
  by_cases h : m = 0
  ·
   rw [dif_pos h, dif_pos h, h, List.append_nil, Nat.zero_add]
   clear ih h
   induction z with
   | zero => rfl
   | succ z iz => rw [Yp3, show ((0 : Nat) : Int) / 2 = ((0 : Nat) : Int) from rfl, iz, List.replicate_succ']; rfl
  ·
   rw [dif_neg h, dif_neg h, show Xzb (m / 2) + 1 + z = Xzb (m / 2) + z + 1 by omega, Yp3, show (m : Int) / 2 = ((m / 2 : Nat) : Int) by omega, ih (m / 2) (by omega), List.append_assoc, show (m : Int) % 2 = ((m % 2 : Nat) : Int) by omega]
def ueL (n : Nat) : List Int := List.replicate (Xzb (n + 1) - 1) 48 ++ Yoi (n + 1)
theorem Yob (n : Nat) (h : n ≤ 1000000) : (ueL n).length ≤ 39 ∧ 1 ≤ (ueL n).length := by
 unfold ueL
 rw [List.length_append, List.length_replicate, Yka]
 have := Yja (m := n + 1) (j := 20) (by omega)
 have := Yfb (m := n + 1) (by omega)
 omega
theorem Ycm : ∀ (m : Nat) (k : Int), 0 ≤ k → k ≤ 1000 → m ≤ 9223372036854775807 → loop Xcj ((m : Int), k) = some (k + Xzb m) := by
 have main : ∀ (j m : Nat) (k : Int), m < 2 ^ j → j ≤ 63 → 0 ≤ k → k + j ≤ 2000 → loop Xcj ((m : Int), k) = some (k + Xzb m) := by
  intro j
  induction j with
  | zero =>
   intro m k hm _ _ _
   have : m = 0 := by simp at hm; omega
   subst this
   refine Xj0 ?_
   unfold Xcj
   simp only
   rw [snA, Xzb, dif_pos rfl]; simp
  | succ j ih =>
   intro m k hm hj h0 h1
   by_cases h : m = 0
   ·
    subst h
    refine Xj0 ?_
    unfold Xcj
    simp only
    rw [snA, Xzb, dif_pos rfl]; simp
   ·
    refine lgo (y := (((m / 2 : Nat) : Int), k + 1)) ?_ ?_
    ·
     unfold Xcj
     simp only
     rw [syA, Xbn (by decide), wkA]
     show some (Lp.go ((m : Int) / 2, k + 1)) = _
     congr 3
    ·
     rw [ih (m / 2) (k + 1) (by rw [Nat.pow_succ] at hm; omega) (by omega) (by omega) (by omega), Xzb.eq_def m, dif_neg h]
     congr 1; omega
 intro m k h0 h1 hm
 exact main 63 m k (by omega) (by omega) h0 (by omega)
theorem Yel (n : Nat) (h : n ≤ 1000000) : Xvq (n : Int) = some (strOfNums (ueL n)) := by
 unfold Xvq Xke
 rw [wkA (e := (n : Int) + 1)]
 have := Ycm (n + 1) 0 (by omega) (by omega) (by omega)
 rw [show ((n + 1 : Nat) : Int) = (n : Int) + 1 by omega, Int.zero_add] at this
 rw [this, Xad, Xad]
 have h1 := Yja (m := n + 1) (j := 20) (by omega)
 have h2 := Yfb (m := n + 1) (by omega)
 rw [wkA (e := 2 * (Xzb (n + 1) : Int)), wkA, show 2 * (Xzb (n + 1) : Int) - 1 = ((Xzb (n + 1) + (Xzb (n + 1) - 1) : Nat) : Int) by omega, Yfp _ _ (by omega) (by omega) (by omega), Xad,
  show (n : Int) + 1 = ((n + 1 : Nat) : Int) by omega, Yoy]
 rfl
theorem Xl9 (n : Nat) (x : Int) (h : n ≤ 1000000000) : Xik (n : Int) x = some (strOfNums (List.replicate n x)) := by
 unfold Xik
 rw [rqA, Int.toNat_natCast]
 have key : ∀ (k a : Nat), k + a = n → loop (Xg1 (n : Int) x) ((a : Int), List.replicate a x ++ List.replicate k 0) = some (List.replicate n x) := by
  intro k
  induction k with
  | zero =>
   intro a ha
   refine Xj0 ?_
   unfold Xg1
   simp only
   rw [snA]
   simp; omega
  | succ k ih =>
   intro a ha
   have e2 := Ygg (List.replicate a x) 0 x (List.replicate k 0)
   rw [List.length_replicate] at e2
   refine lgo (y := (((a + 1 : Nat) : Int), List.replicate (a + 1) x ++ List.replicate k 0)) ?_ (ih (a + 1) (by omega))
   unfold Xg1
   simp only [List.replicate_succ (n := k), Int.toNat_natCast]
   rw [syA, Xbn (by simp; omega), Xbn (by simp), e2, wkA, List.replicate_succ' (n := a), List.append_assoc]
   rfl
 have := key n 0 rfl
 rw [List.replicate_zero, List.nil_append] at this
 exact Xkv this
theorem Xoi (n : Nat) (h : n ≤ 1000000) : Xj8 (n : Int) = some (strOfNums (ueL n)) := by
 have main : ∀ (j m : Nat) (s : List Int), m < 2 ^ j → j ≤ 63 → s.length + j ≤ 1000 → loop Xhe ((m : Int), strOfNums s) = some (strOfNums (Yoi m ++ s)) := by
  intro j
  induction j with
  | zero =>
   intro m s hm _ _
   have : m = 0 := by simp at hm; omega
   subst this
   refine Xj0 ?_
   unfold Xhe
   simp only
   rw [snA, Yoi, dif_pos rfl]; rfl
  | succ j ih =>
   intro m s hm hj hl
   by_cases h : m = 0
   ·
    subst h
    refine Xj0 ?_
    unfold Xhe
    simp only
    rw [snA, Yoi, dif_pos rfl]; rfl
   ·
    have hlt : (m : Int) < 2 ^ (j + 1) := by exact_mod_cast hm
    have hle : (2 : Int) ^ (j + 1) ≤ 2 ^ 63 := by
     have := Nat.pow_le_pow_right (n := 2) (by omega) hj
     exact_mod_cast this
    have hbd : (m : Int) < 9223372036854775808 := Int.lt_of_lt_of_le hlt (by simpa using hle)
    refine lgo (y := (((m / 2 : Nat) : Int), strOfNums ((48 + ((m % 2 : Nat) : Int)) :: s))) ?_ ?_
    ·
     unfold Xhe
     simp only
     rw [syA, Xbn (by decide), Xc7 (by omega), Xcr (by omega), wkA (e := 48 + (m : Int) % 2), w8 (by omega) (by omega), Xbn (by simp only [strOfNums_size, List.length_singleton]; omega), Xbn (by decide), wkA, Yey]
     congr 3
    ·
     rw [ih (m / 2) _ (by rw [Nat.pow_succ] at hm; omega) (by omega) (by simp; omega)]
     conv => rhs; rw [Yoi, dif_neg h]
     rw [List.append_assoc]; rfl
 unfold Xj8
 have h1 := Yja (m := n + 1) (j := 20) (by omega)
 have h2 := Yfb (m := n + 1) (by omega)
 rw [wkA (e := (n : Int) + 1), Yq5, show (n : Int) + 1 = ((n + 1 : Nat) : Int) by omega, main 63 (n + 1) [] (by omega) (by omega) (by simp), Xad, List.append_nil, strOfNums_size, Yka, wkA, show (Xzb (n + 1) : Int) - 1 = ((Xzb (n + 1) - 1 : Nat) : Int) by omega, Xl9 _ _ (by omega), Xad,
  Xbn (by simp only [strOfNums_size, List.length_replicate]; omega), Yey]
 rfl
theorem Xtx (p : Pic) (m : Int) (hl : p.Dots.size ≤ maxLen) (h0 : 0 ≤ m) (h1 : m ≤ 1048576) : Xlk p m = some (if m < p.Dots.size then -1 else m - p.Dots.size) := by
 have hm : maxLen = 9223372036854775807 := rfl
 unfold Xlk
 rw [wkA, Yjw]
 by_cases h : m < p.Dots.size
 ·
  rw [if_pos h, if_pos (by omega)]
 ·
  rw [if_neg h, if_neg (by omega)]
def Yhf (n : Int) : Nat := if n > 0 then (2 * n - 1).toNat else (-2 * n).toNat
theorem Ycq (n : Int) (h : -500000 ≤ n ∧ n ≤ 500000) : Xln n = some ((Yhf n : Int), true) := by
 unfold Xln Yhf
 rw [Xar, Xad, Yph, Xbu h, Yjw, wkA (e := 2 * n), wkA, wkA]
 split
 ·
  rw [Int.toNat_of_nonneg (by omega)]
 ·
  rw [Int.toNat_of_nonneg (by omega)]
theorem Ydl (n : Int) (h : -500000 ≤ n ∧ n ≤ 500000) : Xl0 n = some ((Yhf n : Int), true) := by
 unfold Xl0 Yhf
 rw [Xai, Xad, Yph, Xbu h, Yjw, wkA (e := 2 * n), wkA, wkA]
 split
 ·
  rw [Int.toNat_of_nonneg (by omega)]
 ·
  rw [Int.toNat_of_nonneg (by omega)]
theorem Yfc (n : Int) (h : -500000 ≤ n ∧ n ≤ 500000) : Yhf n ≤ 1000000 := by unfold Yhf; split <;> omega
def seL (n : Int) : List Int := ueL (Yhf n)
theorem Ygs (n : Int) (h : -500000 ≤ n ∧ n ≤ 500000) : Xnp n = some (strOfNums (seL n)) := by
 unfold Xnp
 rw [Ydl n h, Xad, Xoi _ (Yfc n h), Xad]; rfl
theorem Yfk (n : Int) (h : -500000 ≤ n ∧ n ≤ 500000) : Xm7 n = some (strOfNums (seL n), true) := by
 have := Yfc n h
 unfold Xm7
 rw [Ycq n h, Xad, Yph, Xaz]
 unfold Xlh
 rw [Xar, Xad, Yph, syA, Yel _ this, Xad, Xad]; rfl
def Yqu (x : Int) : Bool := decide (-5000 ≤ x ∧ x ≤ 5000)
def Ych (l : List Int) : Bool := decide (l.length = 64) && l.all Yqu
theorem Xy6 (p : Int → Bool) (l : List Int) (f : Int → Option (Lp Int (Ou Unit Bool))) (h : ∀ i : Nat, i < l.length → f (i : Int) = sel (!(p (l.getD i 0))) (some (.done (.ret false))) (some (.go ((i + 1 : Nat) : Int)))) (h0 : f (l.length : Int) = some (.done (.out ()))) :
  loop f 0 = some (if l.all p = true then .out () else .ret false) := by
 have key : ∀ (r a : List Int), l = a ++ r → loop f (a.length : Int) = some (if r.all p = true then .out () else .ret false) := by
  intro r
  induction r with
  | nil => intro a ha; rw [List.append_nil] at ha; rw [← ha, Xpv h0]; rfl
  | cons x r ih =>
   intro a ha
   have hlen : a.length < l.length := by rw [ha]; simp
   have hx : l.getD a.length 0 = x := by rw [ha]; exact Xzc a x _ r
   have hs := h a.length hlen
   rw [hx] at hs
   cases e : p x with
   | true =>
    rw [e] at hs
    have := ih (a ++ [x]) (by rw [ha]; simp)
    rw [List.length_append, List.length_singleton] at this
    rw [Yf5 hs, this, List.all_cons, e, Bool.true_and]
   | false => rw [e] at hs; rw [Xpv hs, List.all_cons, e, Bool.false_and]; rfl
 exact key l [] rfl
theorem Yd3 (l : List Int) : Xbg l 64 5000 = some (Ych l) := by
 unfold Xbg Ych
 by_cases h : l.length = 64
 ·
  rw [Xc5 (by simp only [bne_eq_false_iff_eq]; omega), Xy6 Yqu l (Xc9 l 64 5000) (by
   intro i hi
   unfold Xc9
   rw [syA, rqA, wkA (e := 0 - 5000), Xai, Xad, wkA, Int.toNat_natCast]
   rfl) (by unfold Xc9; rw [snA]), Xad, decide_eq_true h, Bool.true_and]
  cases l.all Yqu <;> rfl
 ·
  rw [Xhj (by simp only [bne_iff_ne, ne_eq]; omega), decide_eq_false h, Bool.false_and]
theorem Xiw (l : List Int) (n lo hi : Int) (hl : l.length ≤ 9223372036854775806) : Xba l n lo hi = some (l.all (fun x => decide (lo ≤ x ∧ x ≤ hi)) && ((l.length : Int) == n)) := by
 unfold Xba
 rw [Xy6 (fun x => decide (lo ≤ x ∧ x ≤ hi)) l (Xix l lo hi) (by
   intro i hi
   unfold Xix
   rw [syA, rqA, Xar, Xad, wkA, Int.toNat_natCast]
   rfl) (by unfold Xix; rw [snA]), Xad]
 cases l.all (fun x => decide (lo ≤ x ∧ x ≤ hi)) <;> rfl
theorem Xm8 (l : List Int) (hl : l.length ≤ 9223372036854775806) : Xej l = some (Ych l) := by
 unfold Xej Ych
 rw [Xiw l _ _ _ hl, Xad]
 show some (l.all Yqu && ((l.length : Int) == 64)) = _
 have : ((l.length : Int) == 64) = decide (l.length = 64) := by rw [Bool.eq_iff_iff]; simp only [beq_iff_eq, decide_eq_true_eq]; omega
 rw [this, Bool.and_comm]
theorem Ylw {l : List Int} (h : Ych l = true) : l.length = 64 ∧ l.all Yqu = true := by
 unfold Ych at h; rw [Bool.and_eq_true, decide_eq_true_eq] at h; exact h
def Xin (c : Cond) : Bool := decide (0 ≤ c.Qp ∧ c.Qp ≤ 40) && !(c.Large && c.Exact)
theorem Xbp (c : Cond) : Xfo c = some (Xin c) := by
 unfold Xfo Xin
 rw [Xai, Xad, Yjx, Xgt, Xad]
 cases c.Large <;> cases c.Exact <;> rfl
theorem Xf0 (c : Cond) : Xfg c = some (Xin c) := by
 unfold Xfg Xin
 rw [Xar, Xad, Yjx, Xgt, Xad]
 cases c.Large <;> cases c.Exact <;> rfl
def Xrj (s : Xan) : Bool :=
 if s.Kind = 0 then decide (s.Mode = 0 ∧ s.Dx = 0 ∧ s.Dy = 0 ∧ s.Levels.length = 0)
 else if s.Kind = 1 then decide (s.Mode = 0) && (decide (-16 ≤ s.Dx ∧ s.Dx ≤ 16) && (decide (-16 ≤ s.Dy ∧ s.Dy ≤ 16) && Ych s.Levels))
 else if s.Kind = 2 then decide (0 ≤ s.Mode ∧ s.Mode ≤ 3) && (decide (s.Dx = 0) && (decide (s.Dy = 0) && Ych s.Levels))
 else false
theorem Ye7 (a b : Int) : (a == b) = decide (a = b) := by rw [Bool.eq_iff_iff]; simp
theorem Xow (s : Xan) : Xjc s = some (Xrj s) := by
 unfold Xjc Xrj
 simp only [Xai, Yd3, Xad, Xgt, Ye7]
 simp only [Yjw]
 by_cases h0 : s.Kind = 0
 ·
  rw [if_pos h0, if_pos h0]; congr 1; rw [Bool.eq_iff_iff]; simp
 ·
  rw [if_neg h0, if_neg h0]
  by_cases h1 : s.Kind = 1
  ·
   rw [if_pos h1, if_pos h1]
  ·
   rw [if_neg h1, if_neg h1]
   by_cases h2 : s.Kind = 2
   ·
    rw [decide_eq_true h2, Bool.true_and, if_pos h2]
   ·
    rw [decide_eq_false h2, Bool.false_and, if_neg h2]
theorem Xxn (s : Xan) (hl : s.Levels.length ≤ 9223372036854775806) : Xiv s = some (Xrj s) := by
 unfold Xiv Xrj
 simp only [Xar, Xm8 _ hl, Xad, Xgt, Ye7]
 simp only [Yjw]
 by_cases h0 : s.Kind = 0
 ·
  rw [if_pos h0, if_pos h0]; congr 1; rw [Bool.eq_iff_iff]; simp
 ·
  rw [if_neg h0, if_neg h0]
  by_cases h1 : s.Kind = 1
  ·
   rw [if_pos h1, if_pos h1]
  ·
   rw [if_neg h1, if_neg h1]
   by_cases h2 : s.Kind = 2
   ·
    rw [decide_eq_true h2, Bool.true_and, if_pos h2]
   ·
    rw [decide_eq_false h2, Bool.false_and, if_neg h2]
def Yd9 (s : Xan) (c : Cond) : Bool := !c.Key || s.Kind == 2
theorem Ycb {s : Xan} (h : Xrj s = true) : 0 ≤ s.Kind ∧ s.Kind ≤ 2 := by
 unfold Xrj at h
 repeat' split at h
 all_goals first | omega | simp at h
theorem Ygt {s : Xan} (h : Xrj s = true) (h1 : s.Kind = 1) : (-16 ≤ s.Dx ∧ s.Dx ≤ 16) ∧ (-16 ≤ s.Dy ∧ s.Dy ≤ 16) ∧ Ych s.Levels = true := by
 unfold Xrj at h
 rw [if_neg (by omega), if_pos h1] at h
 simp only [Bool.and_eq_true, decide_eq_true_eq] at h
 exact ⟨h.2.1, h.2.2.1, h.2.2.2⟩
theorem Yk7 {s : Xan} (h : Xrj s = true) (h1 : s.Kind = 2) : (0 ≤ s.Mode ∧ s.Mode ≤ 3) ∧ Ych s.Levels = true := by
 unfold Xrj at h
 rw [if_neg (by omega), if_neg (by omega), if_pos h1] at h
 simp only [Bool.and_eq_true, decide_eq_true_eq] at h
 exact ⟨h.1, h.2.2.2⟩
theorem Xr4 (l : List Xan) (hl : l.length ≤ 1048600) (hs : ∀ s ∈ l, s.Levels.length ≤ 1048600) : Xf2 l l = some true := by
 unfold Xf2
 rw [Xc5 (by simp), Xpy l.length (f := Xe0 l l) (by
  intro i hi
  have hx := hs (l.getD i Xef) (by rw [Xff l i hi]; exact List.getElem_mem hi)
  unfold Xe0 Xlc
  simp only [Int.toNat_natCast]
  rw [syA, rqA, rqA, Xxs _ (by omega)]
  simp only [bne_self_eq_false, Xay, Xad, Bool.not_true]
  rw [wkA]
  rfl) (by unfold Xe0; rw [snA])]
 rfl
theorem Ye9 (b : ByteArray) (i : Int) : 0 ≤ Yi5 b i ∧ Yi5 b i ≤ 255 := by
 unfold Yi5
 split
 ·
  rename_i h
  have := (b[i.toNat]'h).toNat_lt
  omega
 ·
  omega
theorem Xa5 {p : Pic} (h : Xb1 p = true) : (1 ≤ p.Wide ∧ p.Wide ≤ 256) ∧ (1 ≤ p.High ∧ p.High ≤ 256) ∧ (p.Dots.size : Int) = p.Wide * p.High := by
 unfold Xb1 at h
 simp only [Bool.and_eq_true, decide_eq_true_eq, beq_iff_eq] at h
 exact ⟨h.1, h.2.1, h.2.2⟩
theorem Xzh {p : Pic} (h1 : 1 ≤ p.Wide ∧ p.Wide ≤ 256) (h2 : 1 ≤ p.High ∧ p.High ≤ 256) (h3 : (p.Dots.size : Int) = p.Wide * p.High) : Xb1 p = true := by
 unfold Xb1
 simp only [Bool.and_eq_true, decide_eq_true_eq, beq_iff_eq]
 exact ⟨h1, h2, h3⟩
def Xnz (p : Pic) (x y : Int) : Int := Yi5 p.Dots (Xcg y 0 (p.High - 1) * p.Wide + Xcg x 0 (p.Wide - 1))
theorem Xn0 (p : Pic) (x y : Int) : 0 ≤ Xnz p x y ∧ Xnz p x y ≤ 255 := Ye9 _ _
theorem Yhb {p : Pic} (ok : Xb1 p = true) (x y : Int) : 0 ≤ Xcg y 0 (p.High - 1) * p.Wide + Xcg x 0 (p.Wide - 1) ∧ Xcg y 0 (p.High - 1) * p.Wide + Xcg x 0 (p.Wide - 1) < p.Dots.size ∧ 0 ≤ Xcg y 0 (p.High - 1) * p.Wide ∧ Xcg y 0 (p.High - 1) * p.Wide ≤ 65536 := by
 obtain ⟨h1, h2, h3⟩ := Xa5 ok
 have b1 := Xlg (n := y) (a := 0) (b := p.High - 1) (by omega)
 have b2 := Xlg (n := x) (a := 0) (b := p.Wide - 1) (by omega)
 have m1 := Int.mul_nonneg b1.1 (show 0 ≤ p.Wide by omega)
 have m2 := Int.mul_le_mul_of_nonneg_right b1.2 (show 0 ≤ p.Wide by omega)
 have m3 : (p.High - 1) * p.Wide = p.Wide * p.High - p.Wide := by rw [Int.sub_mul, Int.one_mul, Int.mul_comm]
 have m4 := (Xfz h1 h2).2
 omega
theorem Yap {p : Pic} (ok : Xb1 p = true) (x y : Int) : Xd5 p x y = some (Xnz p x y) := by
 obtain ⟨h1, h2, h3⟩ := Xa5 ok
 unfold Xd5 Xnz
 rw [Xiq, Xad, Xiq, Xad, wkA (e := p.High - 1), wkA (e := p.Wide - 1)]
 obtain ⟨p1, p2, p3, p4⟩ := Yhb ok x y
 have b2 := Xlg (n := x) (a := 0) (b := p.Wide - 1) (by omega)
 have br := Ye9 p.Dots (Xcg y 0 (p.High - 1) * p.Wide + Xcg x 0 (p.Wide - 1))
 rw [wkA (e := Xcg y 0 (p.High - 1) * p.Wide), wkA (e := Xcg y 0 (p.High - 1) * p.Wide + Xcg x 0 (p.Wide - 1)), Xbn ⟨p1, p2⟩, wkA]
theorem Xi8 {p : Pic} (ok : Xb1 p = true) (x y : Int) : Xe2 p x y = some (Xnz p x y) := by
 obtain ⟨h1, h2, h3⟩ := Xa5 ok
 unfold Xe2 Xnz
 rw [Xcn, Xad, ok, Bool.not_true, Xay, Xe1, Xad, Xe1, Xad, wkA (e := p.High - 1), wkA (e := p.Wide - 1)]
 obtain ⟨p1, p2, p3, p4⟩ := Yhb ok x y
 have b2 := Xlg (n := x) (a := 0) (b := p.Wide - 1) (by omega)
 have br := Ye9 p.Dots (Xcg y 0 (p.High - 1) * p.Wide + Xcg x 0 (p.Wide - 1))
 rw [wkA (e := Xcg y 0 (p.High - 1) * p.Wide), wkA (e := Xcg y 0 (p.High - 1) * p.Wide + Xcg x 0 (p.Wide - 1)), Xbn ⟨p1, p2⟩, wkA]
def Yll (p : Pic) (x y : Int) (i : Nat) : Int := Xnz p (x + ((i % 8 : Nat) : Int)) (y + ((i / 8 : Nat) : Int))
def Xmg (p : Pic) (x y : Int) (n : Nat) : List Int := (List.range n).map (Yll p x y)
theorem Yg5 (p : Pic) (x y : Int) (n : Nat) : Xmg p x y (n + 1) = Xmg p x y n ++ [Yll p x y n] := by simp [Xmg, List.range_succ]
theorem Xrl (p : Pic) (x y : Int) (n : Nat) : (Xmg p x y n).length = n := by simp [Xmg]
def Yi8 (x : Int) : Bool := decide (0 ≤ x ∧ x ≤ 255)
def Xa8 (l : List Int) : Bool := decide (l.length = 64) && l.all Yi8
theorem Xa9 {l : List Int} (h : Xa8 l = true) : l.length = 64 ∧ ∀ i : Nat, i < 64 → 0 ≤ l.getD i 0 ∧ l.getD i 0 ≤ 255 := by
 simp only [Xa8, Bool.and_eq_true, decide_eq_true_eq] at h
 refine ⟨h.1, fun i hi => ?_⟩
 have := List.all_eq_true.1 h.2 (l.getD i 0) (by rw [Xff l i (by omega)]; exact List.getElem_mem _)
 simpa [Yi8] using this
theorem Xdh (p : Pic) (x y : Int) : Xa8 (Xmg p x y 64) = true := by
 simp only [Xa8, Xrl, decide_true, Bool.true_and, List.all_eq_true]
 intro z hz
 obtain ⟨i, _, rfl⟩ := List.mem_map.1 hz
 simp only [Yi8, decide_eq_true_eq]
 exact Xn0 _ _ _
theorem Xbo {p : Pic} (ok : Xb1 p = true) (x y : Int) (hx : -1000 ≤ x ∧ x ≤ 1000) (hy : -1000 ≤ y ∧ y ≤ 1000) : Xd8 p x y = some (Xmg p x y 64) := by
 have hm : maxLen = 9223372036854775807 := rfl
 unfold Xd8
 rw [Xcn, Xad, ok, Xaz, Xai, Xad, syA, Xai, Xad, Xad, decide_eq_true (by omega), Bool.not_true, Xay]
 have key : ∀ i : Nat, i ≤ 64 → loop (Xgv p x y) ((i : Int), Xmg p x y i) = some (Xmg p x y 64) := by
  refine Xio _ ?_ ?_
  ·
   exact Xj0 (by unfold Xgv; rw [Xav (by simp)])
  ·
   intro i hi ih
   refine lgo (y := (((i + 1 : Nat) : Int), Xmg p x y (i + 1))) ?_ ih
   unfold Xgv
   simp only
   rw [syA, rqA, rqA, Xc7 (by omega), Xcr (by omega), wkA (e := (i : Int) / 8), wkA (e := x + (i : Int) % 8), wkA (e := y + (i : Int) / 8), Xi8 ok, Xad, Xbn (by rw [Xrl]; simp only [List.length_singleton]; omega), wkA (e := (i : Int) + 1)]
   have e2 : Xnz p (x + (i : Int) % 8) (y + (i : Int) / 8) = Yll p x y i := by unfold Yll; congr 1
   rw [e2, ← Yg5]
   rfl
 have := key 0 (by omega)
 exact (Xkv this).trans rfl
theorem Xfj {p : Pic} (ok : Xb1 p = true) (x y : Int) (hx : -1000 ≤ x ∧ x ≤ 1000) (hy : -1000 ≤ y ∧ y ≤ 1000) : Xbh p x y = some (Xmg p x y 64) := by
 have hm : maxLen = 9223372036854775807 := rfl
 unfold Xbh
 rw [rqA]
 have key : ∀ r : Nat, r ≤ 8 → loop (Xd3 p x y) ((r : Int), Xmg p x y (8 * r)) = some (Xmg p x y 64) := by
  refine Xio _ ?_ ?_
  ·
   exact Xj0 (by unfold Xd3; rw [Xav (by simp)])
  ·
   intro r hr ih
   refine lgo (y := (((r + 1 : Nat) : Int), Xmg p x y (8 * (r + 1)))) ?_ ih
   unfold Xd3
   simp only
   have inner : ∀ c : Nat, c ≤ 8 → loop (Xd4 p x y ((r : Int), Xmg p x y (8 * r))) ((c : Int), Xmg p x y (8 * r + c)) = some (Xmg p x y (8 * (r + 1))) := by
    refine Xio _ ?_ ?_
    ·
     exact Xj0 (by unfold Xd4; rw [Xav (by simp)]; rfl)
    ·
     intro c hc ih2
     refine lgo (y := (((c + 1 : Nat) : Int), Xmg p x y (8 * r + (c + 1)))) ?_ ih2
     unfold Xd4
     simp only
     rw [syA, wkA (e := x + (c : Int)), wkA (e := y + (r : Int)), Yap ok, Xad, Xbn (by rw [Xrl]; simp only [List.length_singleton]; omega), wkA (e := (c : Int) + 1)]
     have e2 : Xnz p (x + (c : Int)) (y + (r : Int)) = Yll p x y (8 * r + c) := by
      unfold Yll
      rw [show (8 * r + c) % 8 = c by omega, show (8 * r + c) / 8 = r by omega]
     rw [e2, ← Yg5]
     rfl
   have i0 := inner 0 (by omega)
   rw [syA]
   refine (Xkv i0).trans ?_
   rw [wkA (e := (r : Int) + 1)]
   rfl
 have := key 0 (by omega)
 exact (Xkv this).trans rfl
def Xwt (x : Int) : Int := if x < 0 then -x else x
def Xlb (a b : List Int) : Nat → Int
 | 0 => 0
 | n + 1 => Xlb a b n + Xwt (a.getD n 0 - b.getD n 0)
theorem Xib {a b : List Int} (ha : Xa8 a = true) (hb : Xa8 b = true) : ∀ n : Nat, n ≤ 64 → 0 ≤ Xlb a b n ∧ Xlb a b n ≤ 255 * n
 | 0, _ => by simp [Xlb]
 | n + 1, h => by
  have ih := Xib ha hb n (by omega)
  have p := (Xa9 ha).2 n (by omega)
  have q := (Xa9 hb).2 n (by omega)
  simp only [Xlb, Xwt]
  split <;> omega
theorem Xn6 {a b : List Int} (ha : Xa8 a = true) (hb : Xa8 b = true) : Xmj a b = some (Xlb a b 64) := by
 unfold Xmj
 have la := (Xa9 ha).1
 have lb := (Xa9 hb).1
 have key : ∀ i : Nat, i ≤ 64 → loop (Xlq a b) (Xlb a b i, (i : Int)) = some (Xlb a b 64) := by
  refine Xio _ ?_ ?_
  ·
   exact Xj0 (by unfold Xlq; rw [Xav (by simp only; omega)])
  ·
   intro i hi ih
   refine lgo (y := (Xlb a b (i + 1), ((i + 1 : Nat) : Int))) ?_ ih
   have p := (Xa9 ha).2 i hi
   have q := (Xa9 hb).2 i hi
   have g := Xib ha hb i (by omega)
   unfold Xlq Xkq
   simp only [Int.toNat_natCast]
   rw [syA, rqA, rqA, wkA (e := a.getD i 0 - b.getD i 0), wkA (e := 0 - (a.getD i 0 - b.getD i 0)), Xad]
   have e : (if 0 - (a.getD i 0 - b.getD i 0) > a.getD i 0 - b.getD i 0 then 0 - (a.getD i 0 - b.getD i 0) else a.getD i 0 - b.getD i 0) = Xwt (a.getD i 0 - b.getD i 0) := by
    unfold Xwt; split <;> split <;> omega
   have ab : 0 ≤ Xwt (a.getD i 0 - b.getD i 0) ∧ Xwt (a.getD i 0 - b.getD i 0) ≤ 255 := by unfold Xwt; split <;> omega
   rw [e, wkA (e := Xlb a b i + Xwt (a.getD i 0 - b.getD i 0)), wkA (e := (i : Int) + 1)]
   rfl
 exact (Xkv (key 0 (by omega))).trans rfl
theorem Xgn (l : List Int) (hl : l.length ≤ 9223372036854775806) : Xba l 64 0 255 = some (Xa8 l) := by
 rw [Xiw l _ _ _ hl]
 have : ((l.length : Int) == 64) = decide (l.length = 64) := by rw [Bool.eq_iff_iff]; simp only [beq_iff_eq, decide_eq_true_eq]; omega
 rw [this, Bool.and_comm]
 rfl
def Yk4 (d : Int) : Int := ((seL d).length : Int)
theorem Xkd (d : Int) (h : -500000 ≤ d ∧ d ≤ 500000) : Xjp d = some (Yk4 d) := by
 unfold Xjp Yk4
 rw [Yfk d h, Xad, strOfNums_size]
theorem Xqm (d : Int) (h : -500000 ≤ d ∧ d ≤ 500000) : 1 ≤ Yk4 d ∧ Yk4 d ≤ 39 := by
 unfold Yk4 seL
 have := Yob (Yhf d) (Yfc d h)
 omega
def Xbj (p : Pic) (x y : Int) : Bool := decide (0 ≤ x ∧ x ≤ p.Wide - 8 ∧ 0 ≤ y ∧ y ≤ p.High - 8)
theorem Xwu {p : Pic} (ok : Xb1 p = true) (x y : Int) : Xhp p ⟨x, y, 8, 8⟩ = some (Xbj p x y) := by
 obtain ⟨k1, k2, k3⟩ := Xa5 ok
 unfold Xhp Xbj
 simp only
 rw [Xar, Xad, Xar, Xad, wkA (e := p.Wide - 8), wkA (e := p.High - 8), Xar, Xad, Xar, Xad]
 simp only [Xgt, Xad]
 congr 1
 rw [Bool.eq_iff_iff]
 simp only [Bool.and_eq_true, decide_eq_true_eq]
 omega
theorem Xk0 {p : Pic} (ok : Xb1 p = true) (x y : Int) (hx : x.tmod 8 = 0) (hy : y.tmod 8 = 0) (h : Xbj p x y = true) : Xbk p x y = some true := by
 obtain ⟨k1, k2, k3⟩ := Xa5 ok
 unfold Xbj at h
 rw [decide_eq_true_eq] at h
 unfold Xbk
 rw [rqA, hx, rqA, hy, wkA (e := p.Wide - 8), wkA (e := p.High - 8), Xar, Xad, Xar, Xad, decide_eq_true (by omega), decide_eq_true (by omega)]
 rfl
def Xkh (p : Pic) (w : List Int) (x y dx dy : Int) : Int := Xlb w (Xmg p (x + dx) (y + dy) 64) 64 + Yk4 dx + Yk4 dy
def BmI (p : Pic) (w : List Int) (x y r : Int) (past : Bool) (b : Int × Int × Int) : Prop :=
 (b = (0, 0, -1) ∧ past = false) ∨
 ((-r ≤ b.1 ∧ b.1 ≤ r) ∧ (-r ≤ b.2.1 ∧ b.2.1 ≤ r) ∧ Xbj p (x + b.1) (y + b.2.1) = true ∧ b.2.2 = Xkh p w x y b.1 b.2.1 ∧ (past = true → b.2.2 ≤ Xkh p w x y 0 0))
theorem Xq6 {p : Pic} {w : List Int} (hw : Xa8 w = true) (x y dx dy : Int) (hx : -100 ≤ dx ∧ dx ≤ 100) (hy : -100 ≤ dy ∧ dy ≤ 100) : 2 ≤ Xkh p w x y dx dy ∧ Xkh p w x y dx dy ≤ 20000 := by
 have g := Xib hw (Xdh p (x + dx) (y + dy)) 64 (by omega)
 have a := Xqm dx (by omega)
 have b := Xqm dy (by omega)
 unfold Xkh; omega
theorem Yqj {p : Pic} {w : List Int} {x y r : Int} (ok : Xb1 p = true) (hw : Xa8 w = true) (hr : 0 ≤ r ∧ r ≤ 4) (h0 : Xbj p x y = true) (s : Int × Int × Int × Int) (hs : -r ≤ s.2.2.2 ∧ s.2.2.2 ≤ r) (v : Int × Int × Int × Int) (hv : -r ≤ v.2.2.2 ∧ v.2.2.2 ≤ r)
  (past : Bool) (hi : BmI p w x y r past (v.1, v.2.1, v.2.2.1)) (hp : past = true ↔ (s.2.2.2 > 0 ∨ (s.2.2.2 = 0 ∧ v.2.2.2 > 0))) :
  ∃ b, Xci p w x y r s v = some (.go (b.1, b.2.1, b.2.2, v.2.2.2 + 1)) ∧ BmI p w x y r (decide (s.2.2.2 > 0 ∨ (s.2.2.2 = 0 ∧ v.2.2.2 + 1 > 0))) b := by
 obtain ⟨k1, k2, k3⟩ := Xa5 ok
 have h0' := h0
 unfold Xbj at h0'
 rw [decide_eq_true_eq] at h0'
 unfold Xci
 rw [Xbu hv.2, wkA (e := x + v.2.2.2), wkA (e := y + s.2.2.2), wkA (e := v.2.2.2 + 1), Xwu ok, Xad]
 cases hh : Xbj p (x + v.2.2.2) (y + s.2.2.2) with
 | false =>
  refine ⟨(v.1, v.2.1, v.2.2.1), rfl, ?_⟩
  have ne : ¬ (s.2.2.2 = 0 ∧ v.2.2.2 = 0) := by
   intro ⟨e1, e2⟩
   rw [e1, e2, Int.add_zero, Int.add_zero, h0] at hh
   cases hh
  rcases hi with ⟨h1, h2⟩ | ⟨h1, h2, h3, h4, h5⟩
  ·
   refine .inl ⟨h1, ?_⟩
   rw [decide_eq_false_iff_not]
   intro h
   have := hp.2 (by omega)
   rw [h2] at this; cases this
  ·
   refine .inr ⟨h1, h2, h3, h4, fun h => h5 (hp.2 ?_)⟩
   rw [decide_eq_true_eq] at h
   omega
 | true =>
  have hh' := hh
  unfold Xbj at hh'
  rw [decide_eq_true_eq] at hh'
  have hb := Xdh p (x + v.2.2.2) (y + s.2.2.2)
  have g := Xib hw hb 64 (by omega)
  have z1 := Xqm v.2.2.2 (by omega)
  have z2 := Xqm s.2.2.2 (by omega)
  rw [Bool.not_true, Xay, Xfj ok _ _ (by omega) (by omega), Xad, Xn6 hw hb, Xad, Xkd _ (by omega), Xad, Xkd _ (by omega), Xad, wkA (e := Xlb w (Xmg p (x + v.2.2.2) (y + s.2.2.2) 64) 64 + Yk4 v.2.2.2), wkA, Yk5, Xad]
  have mc : Xlb w (Xmg p (x + v.2.2.2) (y + s.2.2.2) 64) 64 + Yk4 v.2.2.2 + Yk4 s.2.2.2 = Xkh p w x y v.2.2.2 s.2.2.2 := rfl
  rw [mc]
  have m1 := Xq6 (p := p) (w := w) hw x y v.2.2.2 s.2.2.2 (by omega) (by omega)
  cases hc : (decide (v.2.2.1 < 0) || decide (Xkh p w x y v.2.2.2 s.2.2.2 < v.2.2.1)) with
  | true =>
   refine ⟨(v.2.2.2, s.2.2.2, Xkh p w x y v.2.2.2 s.2.2.2), rfl, .inr ⟨hv, hs, hh, rfl, fun h => ?_⟩⟩
   rw [decide_eq_true_eq] at h
   by_cases e0 : s.2.2.2 = 0 ∧ v.2.2.2 = 0
   ·
    rw [e0.1, e0.2]; exact Int.le_refl _
   ·
    have hpast := hp.2 (by omega)
    rcases hi with ⟨h1, h2⟩ | ⟨h1, h2, h3, h4, h5⟩
    ·
     rw [h2] at hpast; cases hpast
    ·
     have h5' := h5 hpast
     simp only at h4 h5' ⊢
     have n1 := Xq6 (p := p) (w := w) hw x y v.1 v.2.1 (by simp only at h1; omega) (by simp only at h2; omega)
     simp only [Bool.or_eq_true, decide_eq_true_eq] at hc
     omega
  | false =>
   refine ⟨(v.1, v.2.1, v.2.2.1), rfl, ?_⟩
   simp only [Bool.or_eq_false_iff, decide_eq_false_iff_not] at hc
   rcases hi with ⟨h1, h2⟩ | ⟨h1, h2, h3, h4, h5⟩
   ·
    simp only [Prod.mk.injEq] at h1
    omega
   ·
    refine .inr ⟨h1, h2, h3, h4, fun h => ?_⟩
    rw [decide_eq_true_eq] at h
    by_cases e0 : s.2.2.2 = 0 ∧ v.2.2.2 = 0
    ·
     have := hc.2
     rw [e0.1, e0.2] at this
     simp only; omega
    ·
     exact h5 (hp.2 (by omega))
theorem Xw6 {p : Pic} {w : List Int} {x y r : Int} (ok : Xb1 p = true) (hw : Xa8 w = true) (hr : 0 ≤ r ∧ r ≤ 4) (hx : x.tmod 8 = 0) (hy : y.tmod 8 = 0) (h0 : Xbj p x y = true) :
  ∃ b, Xc2 p w x y r = some b ∧ (-r ≤ b.1 ∧ b.1 ≤ r) ∧ (-r ≤ b.2.1 ∧ b.2.1 ≤ r) ∧ Xbj p (x + b.1) (y + b.2.1) = true ∧ b.2.2 = Xkh p w x y b.1 b.2.1 ∧ b.2.2 ≤ Xkh p w x y 0 0 := by
 have hwl := (Xa9 hw).1
 unfold Xc2
 rw [Xb3, Xad, ok, Xaz, Xgn w (by omega), Xad, hw, Xaz, Xar, Xad, decide_eq_true (by omega), Xaz, Xk0 ok x y hx hy h0, Xad, Bool.not_true, Xad, Xay, wkA (e := 0 - r)]
 obtain ⟨o, h, ho⟩ := Xod (f := Xev p w x y r) (fun s => -r ≤ s.2.2.2 ∧ s.2.2.2 ≤ r + 1 ∧ BmI p w x y r (decide (s.2.2.2 > 0)) (s.1, s.2.1, s.2.2.1)) (fun s => (r + 1 - s.2.2.2).toNat) (fun _ b => BmI p w x y r true b) (by
  intro s ⟨g1, g2, g3⟩
  unfold Xev
  by_cases hi : s.2.2.2 ≤ r
  ·
   rw [Xbu hi, wkA (e := s.2.2.2 + 1), wkA (e := 0 - r)]
   obtain ⟨o, h, ho⟩ := Xod (f := Xci p w x y r s) (fun v => -r ≤ v.2.2.2 ∧ v.2.2.2 ≤ r + 1 ∧ BmI p w x y r (decide (s.2.2.2 > 0 ∨ (s.2.2.2 = 0 ∧ v.2.2.2 > 0))) (v.1, v.2.1, v.2.2.1)) (fun v => (r + 1 - v.2.2.2).toNat) (fun _ b => BmI p w x y r (decide (s.2.2.2 + 1 > 0)) b) (by
    intro v ⟨f1, f2, f3⟩
    by_cases hv : v.2.2.2 ≤ r
    ·
     obtain ⟨b, e, hb⟩ := Yqj ok hw hr h0 s ⟨g1, hi⟩ v ⟨f1, hv⟩ _ f3 (by rw [decide_eq_true_eq])
     exact .inr ⟨_, e, ⟨by simp only; omega, by simp only; omega, hb⟩, by simp only; omega, fun _ h => h⟩
    ·
     refine .inl ⟨(v.1, v.2.1, v.2.2.1), ?_, ?_⟩
     ·
      unfold Xci; rw [Xav hv]
     ·
      have : decide (s.2.2.2 > 0 ∨ (s.2.2.2 = 0 ∧ v.2.2.2 > 0)) = decide (s.2.2.2 + 1 > 0) := by
       rw [decide_eq_decide]; omega
      rw [this] at f3
      exact f3) (s.1, s.2.1, s.2.2.1, 0 - r) ⟨by simp only; omega, by simp only; omega, by
    have : decide (s.2.2.2 > 0 ∨ (s.2.2.2 = 0 ∧ 0 - r > 0)) = decide (s.2.2.2 > 0) := by rw [decide_eq_decide]; omega
    simp only
    rw [this]; exact g3⟩
   rw [h, Xad]
   exact .inr ⟨_, rfl, ⟨by simp only; omega, by simp only; omega, ho⟩, by simp only; omega, fun _ h => h⟩
  ·
   rw [Xav hi]
   refine .inl ⟨_, rfl, ?_⟩
   rw [decide_eq_true (by omega)] at g3
   exact g3) (0, 0, -1, 0 - r) ⟨by simp only; omega, by simp only; omega, .inl ⟨rfl, by simp only [decide_eq_false_iff_not]; omega⟩⟩
 rw [h, Xad]
 rcases ho with ⟨_, h2⟩ | ⟨h1, h2, h3, h4, h5⟩
 ·
  cases h2
 ·
  exact ⟨_, rfl, h1, h2, h3, h4, h5 rfl⟩
theorem Xwo (s : ByteArray) : strOfNums (Xfw s) = s := by
 apply ByteArray.ext
 apply Array.ext'
 simp only [strOfNums, Xfw, List.map_map]
 conv => rhs; rw [← List.map_id s.data.toList]
 refine List.map_congr_left fun c _ => ?_
 simp
def inB (B : Int) (l : List Int) : Prop := ∀ x ∈ l, -B ≤ x ∧ x ≤ B
theorem Xmk {B C : Int} {l : List Int} (h : inB B l) (hc : B ≤ C) : inB C l := fun x hx => by have := h x hx; omega
theorem Xii {B : Int} {a b : List Int} (ha : inB B a) (hb : inB B b) : inB B (a ++ b) := fun x hx => (List.mem_append.1 hx).elim (ha x) (hb x)
theorem Xpr (B : Int) : inB B [] := fun x hx => by simp at hx
theorem Yay {B x : Int} (h : -B ≤ x ∧ x ≤ B) : inB B [x] := fun y hy => by rw [List.mem_singleton.1 hy]; exact h
theorem Yji {B : Int} {l : List Int} (h : inB B l) (i : Nat) {y : Int} (hy : -B ≤ y ∧ y ≤ B) : inB B (l.set i y) := fun x hx => by
 rcases List.mem_or_eq_of_mem_set hx with hx | hx
 ·
  exact h x hx
 ·
  rw [hx]; exact hy
theorem Yjh (n : Nat) {B : Int} (h : 0 ≤ B) : inB B (List.replicate n 0) := fun x hx => by rw [List.eq_of_mem_replicate hx]; omega
theorem Xks {B : Int} {l : List Int} (h : inB B l) {i : Nat} (hi : i < l.length) : -B ≤ l.getD i 0 ∧ l.getD i 0 ≤ B := h _ (by rw [Xff l i hi]; exact List.getElem_mem _)
theorem Ykk {B : Int} {l : List Int} (h : inB B l) (n : Nat) : inB B (l.take n) := fun x hx => h x (List.mem_of_mem_take hx)
theorem Yki {B : Int} {l : List Int} (h : inB B l) (n : Nat) : inB B (l.drop n) := fun x hx => h x (List.mem_of_mem_drop hx)
theorem Xc1 {S : Type} {f : Int × S → Option (Lp (Int × S) S)} (n : Nat) (I : Nat → S → Prop) (hs : ∀ (i : Nat) (l : S), i < n → I i l → ∃ l', f ((i : Int), l) = some (.go (((i + 1 : Nat) : Int), l')) ∧ I (i + 1) l') (he : ∀ l, f ((n : Int), l) = some (.done l)) (l0 : S) (h0 : I 0 l0) : ∃ o, loop f (0, l0) = some o ∧ I n o := by
 have key : ∀ i : Nat, i ≤ n → ∀ l, I i l → ∃ o, loop f ((i : Int), l) = some o ∧ I n o := by
  refine Xio _ ?_ ?_
  ·
   intro l h; exact ⟨l, Xj0 (he l), h⟩
  ·
   intro i hi ih l h
   obtain ⟨l', e, h'⟩ := hs i l hi h
   obtain ⟨o, e2, h2⟩ := ih l' h'
   exact ⟨o, lgo e e2, h2⟩
 exact key 0 (by omega) l0 h0
theorem Xmf {S : Type} {f : S × Int → Option (Lp (S × Int) S)} (n : Nat) (I : Nat → S → Prop) (hs : ∀ (i : Nat) (l : S), i < n → I i l → ∃ l', f (l, (i : Int)) = some (.go (l', ((i + 1 : Nat) : Int))) ∧ I (i + 1) l') (he : ∀ l, f (l, (n : Int)) = some (.done l)) (l0 : S) (h0 : I 0 l0) : ∃ o, loop f (l0, 0) = some o ∧ I n o := by
 have key : ∀ i : Nat, i ≤ n → ∀ l, I i l → ∃ o, loop f (l, (i : Int)) = some o ∧ I n o := by
  refine Xio _ ?_ ?_
  ·
   intro l h; exact ⟨l, Xj0 (he l), h⟩
  ·
   intro i hi ih l h
   obtain ⟨l', e, h'⟩ := hs i l hi h
   obtain ⟨o, e2, h2⟩ := ih l' h'
   exact ⟨o, lgo e e2, h2⟩
 exact key 0 (by omega) l0 h0
theorem Xeg (l : List Int) (i j : Nat) (y : Int) (hi : i < l.length) : (l.set i y).getD j 0 = if i = j then y else l.getD j 0 := by
 rw [List.getD_eq_getElem?_getD, List.getElem?_set, List.getD_eq_getElem?_getD]
 by_cases h : i = j
 ·
  subst h; rw [if_pos rfl, if_pos rfl, if_pos hi]; rfl
 ·
  rw [if_neg h, if_neg h]
theorem Xkg {f : Int × List Int → Option (Lp (Int × List Int) (List Int))} (n : Nat) (P Q : Int → Prop) (hs : ∀ (i : Nat) (l : List Int), i < n → l.length = n → P (l.getD i 0) → ∃ y, f ((i : Int), l) = some (.go (((i + 1 : Nat) : Int), l.set i y)) ∧ Q y) (he : ∀ l, f ((n : Int), l) = some (.done l)) (l0 : List Int) (h0 : l0.length = n) (hb : ∀ x ∈ l0, P x) : ∃ o, loop f (0, l0) = some o ∧ o.length = n ∧ ∀ x ∈ o, Q x := by
 obtain ⟨o, e, h1, h2, _⟩ := Xc1 (f := f) n (fun i l => l.length = n ∧ (∀ j, j < i → Q (l.getD j 0)) ∧ ∀ j, i ≤ j → j < n → P (l.getD j 0)) (by
  intro i l hi ⟨g1, g2, g3⟩
  obtain ⟨y, e, hy⟩ := hs i l hi g1 (g3 i (Nat.le_refl _) hi)
  refine ⟨_, e, by rw [List.length_set]; exact g1, fun j hj => ?_, fun j hj hj2 => ?_⟩
  ·
   rw [Xeg l i j y (by omega)]
   by_cases h : i = j
   ·
    rw [if_pos h]; exact hy
   ·
    rw [if_neg h]; exact g2 j (by omega)
  ·
   rw [Xeg l i j y (by omega), if_neg (by omega)]; exact g3 j (by omega) hj2) he l0 ⟨h0, fun j hj => by omega, fun j _ hj => hb _ (by rw [Xff l0 j (by omega)]; exact List.getElem_mem _)⟩
 refine ⟨o, e, h1, fun x hx => ?_⟩
 obtain ⟨j, hj, rfl⟩ := List.getElem_of_mem hx
 have := h2 j (by omega)
 rwa [Xff o j hj] at this
theorem Xb8 (l : List Int) (n B : Int) (hn : (l.length : Int) = n) (hn2 : n ≤ 1000000) (hB : 0 ≤ B ∧ B ≤ 100000000) (h : inB B l) : Xbg l n B = some true := by
 unfold Xbg
 rw [Xc5 (by simp only [bne_eq_false_iff_eq]; exact hn), Xpy l.length (f := Xc9 l n B) (by
  intro i hi
  have := Xks h hi
  unfold Xc9
  rw [syA, rqA, wkA (e := 0 - B), Xai, Xad, Int.toNat_natCast, decide_eq_true (by omega), Bool.not_true, Xay, wkA]
  rfl) (by unfold Xc9; rw [snA]), Xad]
def Xt4 (n i : Int) (v17 : Int × Int) : Option (Lp (Int × Int) (Ou Unit Int)) :=
 sel (decide (v17.2 ≤ (Xaa .i64 ((Xaa .i64 (2 * n)) - 2)))) (
 bnd (it (Xl4 n i v17) 20 (v17.1, 0)) fun o47 => match o47 with
 | .out v43 => (
 some (.go (v43, Xaa .i64 (v17.2 + 1))))
 | .ret r => some (.done (.ret r))) (
 some (.done (.out ())))
theorem Yii {n i : Int} {v : Int × Int} {x : Lp (Int × Int) (Ou Unit Int)} (h : Xt4 n i v = some x) : Xjb n i v = some x := by
 unfold Xt4 at h
 unfold Xjb
 rcases Xh0 h with ⟨hb, h⟩ | ⟨hb, h⟩
 ·
  rw [hb, Xaz]
  obtain ⟨a, h1, h2⟩ := Xa3 h
  rw [Xhi.2 ⟨20, h1⟩, Xad]
  exact h2
 ·
  rw [hb, Xay]; exact h
theorem Yo4 {V O : Type} {f g : V → Option (Lp V O)} (hf : ∀ v y, f v = some y → g v = some y) {o : O} : ∀ (k : Nat) (v : V), it f k v = some o → it g k v = some o
 | 0, v, h => by cases h
 | k + 1, v, h => by
  rw [it] at h ⊢
  cases e : f v with
  | none => rw [e] at h; cases h
  | some s =>
   rw [e] at h
   rw [hf v s e]
   cases s with
   | go y => exact Yo4 hf k y h
   | done o' => exact h
def Xfx (n i : Int) : Int := match it (Xt4 n i) 20 (0, 0) with | some (.ret q) => q | _ => -1
theorem Ypf : ∀ i : Fin 16, (0 ≤ Xfx 4 (i.val : Int) ∧ Xfx 4 (i.val : Int) < 16) := by decide +kernel
theorem Ypg : ∀ i : Fin 64, (0 ≤ Xfx 8 (i.val : Int) ∧ Xfx 8 (i.val : Int) < 64) := by decide +kernel
theorem Xgs (n : Int) (hn : n = 4 ∨ n = 8) (i : Nat) (hi : (i : Int) < n * n) : 0 ≤ Xfx n i ∧ Xfx n i < n * n := by
 rcases hn with rfl | rfl
 ·
  exact Ypf ⟨i, by omega⟩
 ·
  exact Ypg ⟨i, by omega⟩
theorem Xf3 (n : Int) (hn : n = 4 ∨ n = 8) (i : Nat) (hi : (i : Int) < n * n) : Xj5 n i = some (Xfx n i) := by
 have hp := Xgs n hn i hi
 unfold Xj5
 have hw : Xaa .i64 (n * n) = n * n := by rcases hn with rfl | rfl <;> exact wkA
 have hc : (sel (n != 4) (sel (n != 8) (some true) (sel (decide ((i : Int) < 0)) (some true) (some (decide ((i : Int) ≥ (Xaa .i64 (n * n))))))) (sel (decide ((i : Int) < 0)) (some true) (some (decide ((i : Int) ≥ (Xaa .i64 (n * n))))))) = some false := by
  rw [hw, Xav (show ¬ (i : Int) < 0 by omega), decide_eq_false (show ¬ (i : Int) ≥ n * n by omega)]
  rcases hn with rfl | rfl <;> rfl
 rw [hc, Xad, Xay]
 unfold Xfx at hp ⊢
 cases e : it (Xt4 n i) 20 (0, 0) with
 | none => rw [e] at hp; simp only at hp; omega
 | some s =>
  rw [e] at hp
  have h := Yo4 (fun v y => Yii (n := n) (i := i)) 20 _ e
  rw [Xhi.2 ⟨20, h⟩, Xad]
  cases s with
  | out u => simp only at hp; omega
  | ret q => rfl
theorem Xl8 (n : Int) (hn : n = 4 ∨ n = 8) (l : List Int) (B : Int) (hl : (l.length : Int) = n * n) (hb : inB B l) : ∃ o, Xeb n l = some (o, true) ∧ o.length = l.length ∧ inB B o := by
 have hm : maxLen = 9223372036854775807 := rfl
 have hw : Xaa .i64 (n * n) = n * n := by rcases hn with rfl | rfl <;> exact wkA
 have hl2 : l.length ≤ 64 := by rcases hn with rfl | rfl <;> omega
 unfold Xeb
 have hc : (sel (n != 4) (sel (n != 8) (some true) (some ((l.length : Int) != (Xaa .i64 (n * n))))) (some ((l.length : Int) != (Xaa .i64 (n * n))))) = some false := by
  rw [hw, hl, bne_self_eq_false]
  rcases hn with rfl | rfl <;> rfl
 rw [hc, Xad, Xay]
 obtain ⟨o, e, h1, h2⟩ := Xc1 (f := Xcv n l) l.length (fun i s => s.length = i ∧ inB B s) (by
  intro i s hi ⟨g1, g2⟩
  have hp := Xgs n hn i (by omega)
  have ha := Xks hb (i := (Xfx n i).toNat) (by omega)
  unfold Xcv
  simp only
  rw [hw, syA, Xf3 n hn i (by omega), Xad, rqA, Xbn (by simp only [List.length_singleton]; omega), wkA]
  exact ⟨_, rfl, by simp; omega, Xii g2 (Yay ha)⟩) (by intro s; unfold Xcv; simp only; rw [hw, snA]) [] ⟨rfl, Xpr B⟩
 exact ⟨o, (Xkv e).trans rfl, h1, h2⟩
theorem Xe6 (n : Int) (hn : n = 4 ∨ n = 8) (l : List Int) (B : Int) (hB : 0 ≤ B) (hl : (l.length : Int) = n * n) (hb : inB B l) : ∃ o, Xcp n l = some (o, true) ∧ o.length = l.length ∧ inB B o := by
 have hm : maxLen = 9223372036854775807 := rfl
 have hw : Xaa .i64 (n * n) = n * n := by rcases hn with rfl | rfl <;> exact wkA
 have hl2 : l.length ≤ 64 := by rcases hn with rfl | rfl <;> omega
 unfold Xcp
 have hc : (sel (n != 4) (sel (n != 8) (some true) (some ((l.length : Int) != (Xaa .i64 (n * n))))) (some ((l.length : Int) != (Xaa .i64 (n * n))))) = some false := by
  rw [hw, hl, bne_self_eq_false]
  rcases hn with rfl | rfl <;> rfl
 rw [hc, Xad, Xay, rqA, Int.toNat_natCast]
 obtain ⟨o, e, h1, h2⟩ := Xc1 (f := Xbw n l) l.length (fun i s => s.length = l.length ∧ inB B s) (by
  intro i s hi ⟨g1, g2⟩
  have hp := Xgs n hn i (by omega)
  have ha := Xks hb hi
  unfold Xbw
  simp only
  rw [hw, syA, Xf3 n hn i (by omega), Xad, rqA, rqA, rqA, wkA, Int.toNat_natCast]
  exact ⟨_, rfl, by rw [List.length_set]; exact g1, Yji g2 _ ha⟩) (by intro s; unfold Xbw; simp only; rw [hw, snA]) (List.replicate l.length 0) ⟨List.length_replicate, Yjh _ hB⟩
 exact ⟨o, (Xkv e).trans rfl, h1, h2⟩
def Xi6 (u v : Int) : Int := match it Xhu 10 (1, (IntKind.wrap .i64 (BitVec.ofInt (IntKind.bits .i64) u &&& BitVec.ofInt (IntKind.bits .i64) v).toNat)) with | some q => q | none => 7
theorem Yn1 : ∀ u v : Fin 8, (-1 ≤ Xi6 (u.val : Int) (v.val : Int) ∧ Xi6 (u.val : Int) (v.val : Int) ≤ 1) := by decide +kernel
theorem Xre (u v : Nat) (hu : u < 8) (hv : v < 8) : ∃ s, Xgz u v = some s ∧ -1 ≤ s ∧ s ≤ 1 := by
 have h := Yn1 ⟨u, hu⟩ ⟨v, hv⟩
 simp only at h
 unfold Xgz
 rw [Xai, Xad, decide_eq_true (by omega), Xaz, Xai, Xad, decide_eq_true (by omega), Bool.not_true, Xad, Xay]
 unfold Xi6 at h
 cases e : it Xhu 10 (1, (IntKind.wrap .i64 (BitVec.ofInt (IntKind.bits .i64) (u : Int) &&& BitVec.ofInt (IntKind.bits .i64) (v : Int)).toNat)) with
 | none => rw [e] at h; simp only at h; omega
 | some q =>
  rw [e] at h
  rw [Xhi.2 ⟨10, e⟩, Xad]
  exact ⟨q, rfl, h⟩
def Xoj (qp : Int) : Int := if qp.tmod 6 = 0 then 10 else if qp.tmod 6 = 1 then 11 else if qp.tmod 6 = 2 then 13 else if qp.tmod 6 = 3 then 14 else if qp.tmod 6 = 4 then 16 else 18
def Xmc (qp : Int) : Int := match it (Xhv qp) 10 (Xoj qp, 0) with | some q => q | none => 0
theorem Yn5 : ∀ q : Fin 41, (10 ≤ Xmc (q.val : Int) ∧ Xmc (q.val : Int) ≤ 1152) := by decide +kernel
theorem Xrg (qp : Int) (h0 : 0 ≤ qp ∧ qp ≤ 40) : ∃ s, Xfr qp = some s ∧ 10 ≤ s ∧ s ≤ 1152 := by
 have h := Yn5 ⟨qp.toNat, by omega⟩
 simp only at h
 rw [show ((qp.toNat : Nat) : Int) = qp by omega] at h
 unfold Xfr
 rw [Xai, Xad, decide_eq_true (by omega), Bool.not_true, Xay, rqA]
 have hb : (sel ((qp.tmod 6) == 0) (some (10 : Int)) (sel ((qp.tmod 6) == 1) (some 11) (sel ((qp.tmod 6) == 2) (some 13) (sel ((qp.tmod 6) == 3) (some 14) (sel ((qp.tmod 6) == 4) (some 16) (some 18)))))) = some (Xoj qp) := by
  unfold Xoj
  simp only [Ygf, beq_iff_eq]
  repeat' split
  all_goals rfl
 rw [hb, Xad]
 unfold Xmc at h
 cases e : it (Xhv qp) 10 (Xoj qp, 0) with
 | none => rw [e] at h; simp only at h; omega
 | some q =>
  rw [e] at h
  rw [Xhi.2 ⟨10, e⟩, Xad]
  exact ⟨q, rfl, h⟩
theorem Xm0 (p : Int) (h : 0 ≤ p ∧ p ≤ 15) : ∃ k, Xh8 p = some k ∧ 0 ≤ k ∧ k ≤ 2 := by
 unfold Xh8
 rw [Xai, Xad, decide_eq_true h, Bool.not_true, Xay, rqA, rqA, rqA, rqA, Xgt, Xad]
 cases ((Xaa .i64 (p.tdiv 4)).tmod 2 == 0 && (p.tmod 4).tmod 2 == 0) with
 | true => exact ⟨0, rfl, by omega, by omega⟩
 | false =>
  rw [Xay, Xgt, Xad]
  cases ((Xaa .i64 (p.tdiv 4)).tmod 2 == 1 && (p.tmod 4).tmod 2 == 1) with
  | true => exact ⟨1, rfl, by omega, by omega⟩
  | false => exact ⟨2, rfl, by omega, by omega⟩
theorem Xa0 (k a b c : Int) : ∃ x, Xa2 k a b c = some x ∧ (x = a ∨ x = b ∨ x = c) := by
 unfold Xa2
 cases (k == 0) with
 | true => exact ⟨a, rfl, Or.inl rfl⟩
 | false =>
  cases (k == 1) with
  | true => exact ⟨b, rfl, Or.inr (Or.inl rfl)⟩
  | false => exact ⟨c, rfl, Or.inr (Or.inr rfl)⟩
theorem Yl5 (qp : Int) (h0 : 0 ≤ qp ∧ qp ≤ 40) (x : Int) (hx : 0 ≤ x ∧ x ≤ 29) : ∃ o, loop (Xdr qp) (x, 0) = some o ∧ 0 ≤ o ∧ o ≤ 1856 := by
 obtain ⟨o, e, h1, h2⟩ := Xmf (f := Xdr qp) (qp / 6).toNat (fun i s => 0 ≤ s ∧ s ≤ 29 * 2 ^ i) (by
  intro i s hi ⟨g1, g2⟩
  have h6 : (2 : Int) ^ i ≤ 64 := by
   have : i ≤ 6 := by omega
   obtain rfl | rfl | rfl | rfl | rfl | rfl | rfl : i = 0 ∨ i = 1 ∨ i = 2 ∨ i = 3 ∨ i = 4 ∨ i = 5 ∨ i = 6 := by omega
   all_goals decide
  have h7 : (2 : Int) ^ (i + 1) = 2 * 2 ^ i := by rw [Int.pow_succ, Int.mul_comm]
  unfold Xdr
  simp only
  rw [rqA, Xcr (by omega), wkA (e := qp / 6), syA, wkA (e := 2 * s), wkA (e := (i : Int) + 1)]
  exact ⟨_, rfl, by omega, by rw [h7]; omega⟩) (by intro s; unfold Xdr; simp only; rw [rqA, Xcr (by omega), wkA (e := qp / 6), snA]) x ⟨hx.1, by simp; omega⟩
 have h6 : (2 : Int) ^ (qp / 6).toNat ≤ 64 := by
  generalize hi : (qp / 6).toNat = i
  obtain rfl | rfl | rfl | rfl | rfl | rfl | rfl : i = 0 ∨ i = 1 ∨ i = 2 ∨ i = 3 ∨ i = 4 ∨ i = 5 ∨ i = 6 := by omega
  all_goals decide
 exact ⟨o, e, h1, by omega⟩
theorem Ybr (qp p : Int) (h0 : 0 ≤ qp ∧ qp ≤ 40) (hp : 0 ≤ p ∧ p ≤ 15) : ∃ s, Xgx qp p = some s ∧ 0 ≤ s ∧ s ≤ 1856 := by
 unfold Xgx
 obtain ⟨k, e, k0, k1⟩ := Xm0 p hp
 rw [e, Xad, Xai, Xad, decide_eq_true h0, Xaz, decide_eq_false (by omega), Xad, Xay, rqA]
 obtain ⟨a1, e1, b1⟩ := Xa0 k 10 16 13
 obtain ⟨a2, e2, b2⟩ := Xa0 k 11 18 14
 obtain ⟨a3, e3, b3⟩ := Xa0 k 13 20 16
 obtain ⟨a4, e4, b4⟩ := Xa0 k 14 23 18
 obtain ⟨a5, e5, b5⟩ := Xa0 k 16 25 20
 obtain ⟨a6, e6, b6⟩ := Xa0 k 18 29 23
 rw [e1, e2, e3, e4, e5, e6]
 simp only [Xad, Yk6]
 obtain ⟨o, eo, o1, o2⟩ := Yl5 qp h0 (sel (qp.tmod 6 == 0) a1 (sel (qp.tmod 6 == 1) a2 (sel (qp.tmod 6 == 2) a3 (sel (qp.tmod 6 == 3) a4 (sel (qp.tmod 6 == 4) a5 (sel (qp.tmod 6 == 5) a6 0)))))) (by
  simp only [Ygf]
  repeat' split
  all_goals omega)
 exact ⟨o, (Xkv eo).trans rfl, o1, o2⟩
theorem Ybv (qp p : Int) (h0 : 0 ≤ qp ∧ qp ≤ 40) (hp : 0 ≤ p ∧ p ≤ 15) : ∃ s, Xgy qp p = some s ∧ 0 ≤ s ∧ s ≤ 13107 := by
 unfold Xgy
 obtain ⟨k, e, k0, k1⟩ := Xm0 p hp
 rw [e, Xad, Xai, Xad, decide_eq_true h0, Xaz, decide_eq_false (by omega), Xad, Xay, rqA]
 obtain ⟨a1, e1, b1⟩ := Xa0 k 13107 5243 8066
 obtain ⟨a2, e2, b2⟩ := Xa0 k 11916 4660 7490
 obtain ⟨a3, e3, b3⟩ := Xa0 k 10082 4194 6554
 obtain ⟨a4, e4, b4⟩ := Xa0 k 9362 3647 5825
 obtain ⟨a5, e5, b5⟩ := Xa0 k 8192 3355 5243
 obtain ⟨a6, e6, b6⟩ := Xa0 k 7282 2893 4559
 rw [e1, e2, e3, e4, e5, e6]
 simp only [Xad, Yk6]
 refine ⟨_, rfl, ?_⟩
 simp only [Ygf]
 repeat' split
 all_goals omega
theorem Ykx {a s B : Int} (ha : -B ≤ a ∧ a ≤ B) (hs : -1 ≤ s ∧ s ≤ 1) : (-B ≤ a * s ∧ a * s ≤ B) ∧ (-B ≤ s * a ∧ s * a ≤ B) := by
 obtain rfl | rfl | rfl : s = -1 ∨ s = 0 ∨ s = 1 := by omega
 all_goals omega
theorem Yd6 (p : List Int) (B : Int) (hB : 0 ≤ B ∧ B ≤ 1000000000000) (hl : p.length = 64) (hb : inB B p) (i v : Nat) (hi : i < 8) (hv : v < 8) : ∃ o, Xh9 p i v = some o ∧ -(8 * B) ≤ o ∧ o ≤ 8 * B := by
 unfold Xh9
 obtain ⟨o, e, h1, h2⟩ := Xmf (f := Xdb p i v) 8 (fun k s => -(B * k) ≤ s ∧ s ≤ B * k) (by
  intro k s hk ⟨g1, g2⟩
  obtain ⟨q, eq, q0, q1⟩ := Xre v k hv hk
  have ha := Xks hb (i := 8 * i + k) (by omega)
  have hm := (Ykx ha ⟨q0, q1⟩).1
  have hk8 : B * k ≤ B * 8 := Int.mul_le_mul_of_nonneg_left (by omega) hB.1
  have hk0 : B * ((k + 1 : Nat) : Int) = B * k + B := by rw [Int.natCast_add, Int.mul_add]; simp
  unfold Xdb
  simp only
  rw [syA, wkA (e := 8 * (i : Int)), wkA (e := 8 * (i : Int) + (k : Int)), rqA, eq, Xad, show (8 * (i : Int) + (k : Int)).toNat = 8 * i + k by omega, wkA (e := p.getD (8 * i + k) 0 * q), wkA (e := s + p.getD (8 * i + k) 0 * q), wkA (e := (k : Int) + 1)]
  exact ⟨_, rfl, by rw [hk0]; omega, by rw [hk0]; omega⟩) (by intro s; unfold Xdb; rw [Xav (by simp)]) 0 (by simp)
 exact ⟨o, (Xkv e).trans rfl, by omega, by omega⟩
theorem Xp9 (p : List Int) (B : Int) (hB : 0 ≤ B ∧ B ≤ 10000000000) (hl : p.length = 64) (hb : inB B p) : ∃ o, Xfc p = some o ∧ o.length = 64 ∧ inB (64 * B) o := by
 have hm : maxLen = 9223372036854775807 := rfl
 unfold Xfc
 obtain ⟨h, eh, hh1, hh2⟩ := Xc1 (f := Xcd p) 8 (fun i s => s.length = 8 * i ∧ inB (8 * B) s) (by
  intro i s hi ⟨g1, g2⟩
  obtain ⟨t, et, t1, t2⟩ := Xc1 (f := Xce p ((i : Int), s)) 8 (fun v s => s.length = 8 * i + v ∧ inB (8 * B) s) (by
   intro v s hv ⟨g1, g2⟩
   obtain ⟨r, er, r1, r2⟩ := Yd6 p B ⟨hB.1, by omega⟩ hl hb i v hi hv
   unfold Xce
   simp only
   rw [syA, er, Xad, Xbn (by simp only [List.length_singleton]; omega), wkA (e := (v : Int) + 1)]
   exact ⟨_, rfl, by simp; omega, Xii g2 (Yay ⟨by omega, r2⟩)⟩) (by intro s; unfold Xce; rw [Xav (by simp)]) s ⟨by omega, g2⟩
  unfold Xcd
  simp only
  rw [syA, et, Xad, wkA (e := (i : Int) + 1)]
  exact ⟨_, rfl, by omega, t2⟩) (by intro s; unfold Xcd; rw [Xav (by simp)]) [] ⟨rfl, Xpr _⟩
 rw [eh, Xad]
 obtain ⟨o, eo, o1, o2⟩ := Xc1 (f := Xbx h) 8 (fun i s => s.length = 8 * i ∧ inB (64 * B) s) (by
  intro i s hi ⟨g1, g2⟩
  obtain ⟨t, et, t1, t2⟩ := Xc1 (f := Xby h ((i : Int), s)) 8 (fun v s => s.length = 8 * i + v ∧ inB (64 * B) s) (by
   intro v r hv ⟨g1, g2⟩
   obtain ⟨a, ea, a1, a2⟩ := Xmf (f := Xbz h ((i : Int), s) ((v : Int), r)) 8 (fun k s => -(8 * B * k) ≤ s ∧ s ≤ 8 * B * k) (by
    intro k c hk ⟨g1, g2⟩
    obtain ⟨q, eq, q0, q1⟩ := Xre i k hi hk
    have ha := Xks hh2 (i := 8 * k + v) (by omega)
    have hm := (Ykx ha ⟨q0, q1⟩).2
    have hk8 : 8 * B * k ≤ 8 * B * 8 := Int.mul_le_mul_of_nonneg_left (by omega) (by omega)
    have hk0 : 8 * B * ((k + 1 : Nat) : Int) = 8 * B * k + 8 * B := by rw [Int.natCast_add, Int.mul_add]; simp
    unfold Xbz
    simp only
    rw [syA, eq, Xad, wkA (e := 8 * (k : Int)), wkA (e := 8 * (k : Int) + (v : Int)), rqA, rqA, show (8 * (k : Int) + (v : Int)).toNat = 8 * k + v by omega, wkA (e := q * h.getD (8 * k + v) 0), wkA (e := c + q * h.getD (8 * k + v) 0), wkA (e := (k : Int) + 1)]
    exact ⟨_, rfl, by rw [hk0]; omega, by rw [hk0]; omega⟩) (by intro s; unfold Xbz; rw [Xav (by simp)]) 0 (by simp)
   unfold Xby
   simp only
   rw [syA, ea, Xad, Xbn (by simp only [List.length_singleton]; omega), wkA (e := (v : Int) + 1)]
   exact ⟨_, rfl, by simp; omega, Xii g2 (Yay ⟨by omega, by omega⟩)⟩) (by intro s; unfold Xby; rw [Xav (by simp)]) s ⟨by omega, g2⟩
  unfold Xbx
  simp only
  rw [syA, et, Xad, wkA (e := (i : Int) + 1)]
  exact ⟨_, rfl, by omega, t2⟩) (by intro s; unfold Xbx; rw [Xav (by simp)]) [] ⟨rfl, Xpr _⟩
 exact ⟨o, (Xkv eo).trans rfl, by omega, o2⟩
theorem Xje (a b : Int) (ha : -1000000000000 ≤ a ∧ a ≤ 1000000000000) (hb : b = 2 ∨ b = 64) : ∃ d, Xcc a b = some d ∧ b * d ≤ a ∧ a < b * d + b := by
 unfold Xcc
 have h1 : b * (a.tdiv b) + a.tmod b = a := Int.mul_tdiv_add_tmod a b
 have h2 : -b < a.tmod b ∧ a.tmod b < b := by
  have hb0 : 0 < b := by omega
  refine ⟨?_, Int.tmod_lt_of_pos a hb0⟩
  have := Int.lt_tmod_of_pos a hb0
  omega
 rw [rqA, rqA]
 generalize a.tmod b = m at h1 h2
 generalize a.tdiv b = t at h1 h2
 have ht : -1000000000001 ≤ t ∧ t ≤ 1000000000001 := by rcases hb with rfl | rfl <;> omega
 by_cases h : m < 0
 ·
  rw [Xbu h, Xad, wkA (e := t), wkA (e := t - 1)]
  refine ⟨_, rfl, ?_⟩
  rcases hb with rfl | rfl <;> omega
 ·
  rw [Xav h, Xad, wkA (e := t)]
  refine ⟨_, rfl, ?_⟩
  rcases hb with rfl | rfl <;> omega
theorem Xuc (p : List Int) (hl : p.length = 64) (hb : inB 255 p) : ∃ o, Xj4 p = some o ∧ o.length = 64 := by
 unfold Xj4
 obtain ⟨o, e, h1, h2⟩ := Xp9 p 255 (by omega) hl hb
 rw [Xb8 p 64 1000 (by omega) (by omega) (by omega) (Xmk hb (by omega)), Xad, Bool.not_true, Xay, e, Xad]
 exact ⟨o, rfl, h1⟩
theorem Xv5 (p : List Int) (hl : p.length = 64) (hb : inB 5760000 p) : ∃ o, Xel p = some o ∧ o.length = 64 ∧ inB 10000000 o := by
 unfold Xel
 obtain ⟨o, e, h1, h2⟩ := Xp9 p 5760000 (by omega) hl hb
 rw [Xb8 p 64 10000000 (by omega) (by omega) (by omega) (Xmk hb (by omega)), Xad, Bool.not_true, Xay, e, Xad]
 obtain ⟨r, er, r1, r2⟩ := Xkg (f := Xe3) 64 (fun x => -368640000 ≤ x ∧ x ≤ 368640000) (fun x => -10000000 ≤ x ∧ x ≤ 10000000) (by
  intro i l hi hll hx
  obtain ⟨d, ed, d1, d2⟩ := Xje (l.getD i 0 + 32) 64 (by omega) (Or.inr rfl)
  unfold Xe3
  simp only [Int.toNat_natCast]
  rw [syA, rqA, rqA, wkA (e := l.getD i 0 + 32), ed, Xad, rqA, rqA, wkA (e := (i : Int) + 1)]
  exact ⟨d, rfl, by omega, by omega⟩) (by intro s; unfold Xe3; rw [Xav (by simp)]) o h1 (fun x hx => by have := h2 x hx; omega)
 exact ⟨r, (Xkv er).trans rfl, r1, r2⟩
theorem Xjh (p : List Int) (B : Int) (hB : 0 ≤ B) (hl : p.length = 16) (hb : inB B p) : ∃ o, Xda p = some o ∧ o.length = 16 ∧ inB B o := by
 unfold Xda
 rw [rqA]
 obtain ⟨o, e, h1, h2⟩ := Xc1 (f := Xcw p) 16 (fun i s => s.length = 16 ∧ inB B s) (by
  intro i s hi ⟨g1, g2⟩
  have ha := Xks hb (i := i) (by omega)
  unfold Xcw
  simp only
  rw [syA, rqA, rqA, rqA, Xc7 (by omega), Xcr (by omega), wkA (e := (i : Int) / 4), wkA (e := (i : Int) % 4 * 4), wkA (e := (i : Int) % 4 * 4 + (i : Int) / 4), rqA, rqA, wkA (e := (i : Int) + 1), Int.toNat_natCast]
  exact ⟨_, rfl, by rw [List.length_set]; exact g1, Yji g2 _ ha⟩) (by intro s; unfold Xcw; rw [Xav (by simp)]) (List.replicate (16 : Int).toNat 0) ⟨by simp, Yjh _ hB⟩
 exact ⟨o, (Xkv e).trans rfl, h1, h2⟩
theorem Ykj {B a b c d : Int} (h1 : -B ≤ a ∧ a ≤ B) (h2 : -B ≤ b ∧ b ≤ B) (h3 : -B ≤ c ∧ c ≤ B) (h4 : -B ≤ d ∧ d ≤ B) : inB B [a, b, c, d] := fun x hx => by
 simp only [List.mem_cons, List.not_mem_nil, or_false] at hx
 rcases hx with rfl | rfl | rfl | rfl
 ·
  exact h1
 ·
  exact h2
 ·
  exact h3
 ·
  exact h4
theorem Xp6 (p : List Int) (B : Int) (hB : 0 ≤ B ∧ B ≤ 1000000000) (hl : p.length = 16) (hb : inB B p) : ∃ o, Xfb p = some o ∧ o.length = 16 ∧ inB (6 * B) o := by
 have hm : maxLen = 9223372036854775807 := rfl
 unfold Xfb
 obtain ⟨o, e, h1, h2⟩ := Xc1 (f := Xcx p) 4 (fun i s => s.length = 4 * i ∧ inB (6 * B) s) (by
  intro i s hi ⟨g1, g2⟩
  have a0 := Xks hb (i := 4 * i) (by omega)
  have a1 := Xks hb (i := 4 * i + 1) (by omega)
  have a2 := Xks hb (i := 4 * i + 2) (by omega)
  have a3 := Xks hb (i := 4 * i + 3) (by omega)
  unfold Xcx
  simp only
  rw [syA, wkA (e := 4 * (i : Int)), wkA (e := 4 * (i : Int) + 1), wkA (e := 4 * (i : Int) + 2), wkA (e := 4 * (i : Int) + 3), rqA, rqA, rqA, rqA, show (4 * (i : Int)).toNat = 4 * i by omega, show (4 * (i : Int) + 1).toNat = 4 * i + 1 by omega, show (4 * (i : Int) + 2).toNat = 4 * i + 2 by omega, show (4 * (i : Int) + 3).toNat = 4 * i + 3 by omega]
  generalize p.getD (4 * i) 0 = a at *
  generalize p.getD (4 * i + 1) 0 = b at *
  generalize p.getD (4 * i + 2) 0 = c at *
  generalize p.getD (4 * i + 3) 0 = d at *
  rw [wkA (e := (i : Int) + 1)]
  have w1 : Xaa .i64 (Xaa .i64 (Xaa .i64 (a + b) + c) + d) = a + b + c + d := by
   rw [wkA (e := a + b), wkA (e := a + b + c), wkA]
  have w2 : Xaa .i64 (Xaa .i64 (Xaa .i64 (Xaa .i64 (2 * a) + b) - c) - Xaa .i64 (2 * d)) = 2 * a + b - c - 2 * d := by
   rw [wkA (e := 2 * a), wkA (e := 2 * d), wkA (e := 2 * a + b), wkA (e := 2 * a + b - c), wkA]
  have w3 : Xaa .i64 (Xaa .i64 (Xaa .i64 (a - b) - c) + d) = a - b - c + d := by
   rw [wkA (e := a - b), wkA (e := a - b - c), wkA]
  have w4 : Xaa .i64 (Xaa .i64 (Xaa .i64 (a - Xaa .i64 (2 * b)) + Xaa .i64 (2 * c)) - d) = a - 2 * b + 2 * c - d := by
   rw [wkA (e := 2 * b), wkA (e := 2 * c), wkA (e := a - 2 * b), wkA (e := a - 2 * b + 2 * c), wkA]
  rw [w1, w2, w3, w4, Xbn (by simp only [List.length_cons, List.length_nil]; omega)]
  exact ⟨_, rfl, by simp; omega, Xii g2 (Ykj (by omega) (by omega) (by omega) (by omega))⟩) (by intro s; unfold Xcx; rw [Xav (by simp)]) [] ⟨rfl, Xpr _⟩
 exact ⟨o, (Xkv e).trans rfl, h1, h2⟩
theorem Xoz (p : List Int) (B : Int) (hB : 0 ≤ B ∧ B ≤ 1000000000) (hl : p.length = 16) (hb : inB B p) : ∃ o, Xec p = some o ∧ o.length = 16 ∧ inB (4 * B + 2) o := by
 have hm : maxLen = 9223372036854775807 := rfl
 unfold Xec
 obtain ⟨o, e, h1, h2⟩ := Xc1 (f := Xcb p) 4 (fun i s => s.length = 4 * i ∧ inB (4 * B + 2) s) (by
  intro i s hi ⟨g1, g2⟩
  have a0 := Xks hb (i := 4 * i) (by omega)
  have a1 := Xks hb (i := 4 * i + 1) (by omega)
  have a2 := Xks hb (i := 4 * i + 2) (by omega)
  have a3 := Xks hb (i := 4 * i + 3) (by omega)
  obtain ⟨f, ef, f1, f2⟩ := Xje (p.getD (4 * i + 1) 0) 2 (by omega) (Or.inl rfl)
  obtain ⟨g, eg, g1', g2'⟩ := Xje (p.getD (4 * i + 3) 0) 2 (by omega) (Or.inl rfl)
  unfold Xcb
  simp only
  rw [syA, wkA (e := 4 * (i : Int)), wkA (e := 4 * (i : Int) + 1), wkA (e := 4 * (i : Int) + 2), wkA (e := 4 * (i : Int) + 3), rqA, rqA, rqA, rqA, show (4 * (i : Int)).toNat = 4 * i by omega, show (4 * (i : Int) + 1).toNat = 4 * i + 1 by omega, show (4 * (i : Int) + 2).toNat = 4 * i + 2 by omega, show (4 * (i : Int) + 3).toNat = 4 * i + 3 by omega, ef, Xad, eg, Xad]
  generalize p.getD (4 * i) 0 = a at *
  generalize p.getD (4 * i + 1) 0 = b at *
  generalize p.getD (4 * i + 2) 0 = c at *
  generalize p.getD (4 * i + 3) 0 = d at *
  rw [wkA (e := (i : Int) + 1), wkA (e := a + c), wkA (e := a - c), wkA (e := b + g), wkA (e := f - d), wkA (e := a + c + (b + g)), wkA (e := a - c + (f - d)), wkA (e := a - c - (f - d)), wkA (e := a + c - (b + g)), Xbn (by simp only [List.length_cons, List.length_nil]; omega)]
  exact ⟨_, rfl, by simp; omega, Xii g2 (Ykj (by omega) (by omega) (by omega) (by omega))⟩) (by intro s; unfold Xcb; rw [Xav (by simp)]) [] ⟨rfl, Xpr _⟩
 exact ⟨o, (Xkv e).trans rfl, h1, h2⟩
theorem Xw1 (p : List Int) (hl : p.length = 16) (hb : inB 255 p) : ∃ o, Xl1 p = some o ∧ o.length = 16 ∧ inB 9180 o := by
 unfold Xl1
 obtain ⟨a, ea, a1, a2⟩ := Xp6 p 255 (by omega) hl hb
 obtain ⟨b, eb, b1, b2⟩ := Xjh a (6 * 255) (by omega) a1 a2
 obtain ⟨c, ec, c1, c2⟩ := Xp6 b (6 * 255) (by omega) b1 b2
 obtain ⟨d, ed, d1, d2⟩ := Xjh c (6 * (6 * 255)) (by omega) c1 c2
 rw [Xb8 p 16 1000 (by omega) (by omega) (by omega) (Xmk hb (by omega)), Xad, Bool.not_true, Xay, ea, Xad, eb, Xad, ec, Xad, ed, Xad]
 exact ⟨d, rfl, d1, d2⟩
theorem Xou (p : List Int) (hl : p.length = 16) (hb : inB 10000000 p) : ∃ o, Xfp p = some o ∧ o.length = 16 ∧ inB 10000000 o := by
 unfold Xfp
 obtain ⟨a, ea, a1, a2⟩ := Xoz p 10000000 (by omega) hl hb
 obtain ⟨b, eb, b1, b2⟩ := Xjh a _ (by omega) a1 a2
 obtain ⟨c, ec, c1, c2⟩ := Xoz b _ (by omega) b1 b2
 obtain ⟨d, ed, d1, d2⟩ := Xjh c _ (by omega) c1 c2
 rw [Xb8 p 16 10000000 (by omega) (by omega) (by omega) hb, Xad, Bool.not_true, Xay, ea, Xad, eb, Xad, ec, Xad, ed, Xad]
 obtain ⟨r, er, r1, r2⟩ := Xkg (f := Xfy) 16 (fun x => -160000010 ≤ x ∧ x ≤ 160000010) (fun x => -10000000 ≤ x ∧ x ≤ 10000000) (by
  intro i l hi hll hx
  obtain ⟨d, ed, d1, d2⟩ := Xje (l.getD i 0 + 32) 64 (by omega) (Or.inr rfl)
  unfold Xfy
  simp only [Int.toNat_natCast]
  rw [syA, rqA, rqA, wkA (e := l.getD i 0 + 32), ed, Xad, rqA, rqA, wkA (e := (i : Int) + 1)]
  exact ⟨d, rfl, by omega, by omega⟩) (by intro s; unfold Xfy; rw [Xav (by simp)]) d d1 (fun x hx => by have := d2 x hx; omega)
 exact ⟨r, (Xkv er).trans rfl, r1, r2⟩
theorem Xk5 (x : Int) (h : -1000000000000 ≤ x ∧ x ≤ 1000000000000) : Xc6 x = some (Xwt x) := by
 unfold Xc6 Xwt
 by_cases hx : x < 0
 ·
  rw [Xbu hx, if_pos hx, wkA]; congr 1; omega
 ·
  rw [Xav hx, if_neg hx]
theorem Xnr (w x B : Int) (h : 0 ≤ x ∧ x ≤ B) (hB : B ≤ 1000000000) : ∃ o, Xep w x = some o ∧ -B ≤ o ∧ o ≤ B := by
 unfold Xep
 by_cases hx : w < 0
 ·
  rw [Xbu hx, wkA]; exact ⟨_, rfl, by omega, by omega⟩
 ·
  rw [Xav hx]; exact ⟨_, rfl, by omega, by omega⟩
def Ypj (qp : Int) : Int := Xaa .i64 (1 * 2 ^ min (Xaa .u64 (Xaa .i64 (15 + (Xaa .i64 (qp.tdiv 6))))).toNat (IntKind.bits .i64))
theorem Ypk : ∀ q : Fin 41, (0 ≤ Xaa .u64 (Xaa .i64 (15 + (Xaa .i64 ((q.val : Int).tdiv 6)))) ∧ 32768 ≤ Ypj (q.val : Int) ∧ Ypj (q.val : Int) ≤ 2097152) := by decide +kernel
theorem Xmr (w qp p : Int) (hw : -9180 ≤ w ∧ w ≤ 9180) (h0 : 0 ≤ qp ∧ qp ≤ 40) (hp : 0 ≤ p ∧ p ≤ 15) : ∃ o, Xds w qp p = some o ∧ -5000 ≤ o ∧ o ≤ 5000 := by
 have hs := Ypk ⟨qp.toNat, by omega⟩
 simp only at hs
 rw [show ((qp.toNat : Nat) : Int) = qp by omega] at hs
 obtain ⟨s1, s2, s3⟩ := hs
 obtain ⟨s, es, q0, q1⟩ := Ybv qp p h0 hp
 unfold Xds
 have en : Xaa .i64 (1 * 2 ^ min (Xaa .u64 (Xaa .i64 (15 + (Xaa .i64 (qp.tdiv 6))))).toNat (IntKind.bits .i64)) = Ypj qp := rfl
 rw [Xai, Xad, decide_eq_true (by omega), Xaz, Xai, Xad, decide_eq_true h0, Xaz, Xai, Xad, decide_eq_true hp, Bool.not_true, Xad, Xay, rqA, Xbn s1, Xk5 w (by omega), Xad, es, Xad, rqA, en]
 generalize Ypj qp = n at *
 have ha : 0 ≤ Xwt w ∧ Xwt w ≤ 9180 := by unfold Xwt; split <;> omega
 generalize Xwt w = a at *
 have hm : 0 ≤ a * s ∧ a * s ≤ 9180 * 13107 := ⟨Int.mul_nonneg ha.1 q0, Int.mul_le_mul ha.2 q1 q0 (by omega)⟩
 rw [rqA, wkA (e := a * s), Xcr (a := n) (by omega), wkA (e := n / 3), wkA (e := a * s + n / 3), Xcr (by omega)]
 have d0 : 0 ≤ (a * s + n / 3) / n := Int.ediv_nonneg (by omega) (by omega)
 have d1 : (a * s + n / 3) / n < 5000 := Int.ediv_lt_of_lt_mul (by omega) (by omega)
 rw [wkA]
 obtain ⟨o, eo, o1, o2⟩ := Xnr w _ 5000 ⟨d0, by omega⟩ (by omega)
 rw [eo, Xad]
 exact ⟨o, rfl, o1, o2⟩
theorem Xmp (w qp : Int) (h0 : 0 ≤ qp ∧ qp ≤ 40) : ∃ o, Xdq w qp = some o ∧ -5000 ≤ o ∧ o ≤ 5000 := by
 unfold Xdq
 rw [Xai, Xad]
 by_cases hw : -20000 ≤ w ∧ w ≤ 20000
 ·
  obtain ⟨s, es, q0, q1⟩ := Xrg qp h0
  rw [decide_eq_true hw, Xaz, Xai, Xad, decide_eq_true h0, Bool.not_true, Xad, Xay, es, Xad, Xk5 w (by omega), Xad]
  have ha : 0 ≤ Xwt w ∧ Xwt w ≤ 20000 := by unfold Xwt; split <;> omega
  generalize Xwt w = a at *
  rw [rqA, rqA, Xcr (a := s) (by omega), wkA (e := s / 2), wkA (e := a + s / 2), Xcr (by omega)]
  have d0 : 0 ≤ (a + s / 2) / s := Int.ediv_nonneg (by omega) (by omega)
  have d1 : (a + s / 2) / s < 5000 := Int.ediv_lt_of_lt_mul (by omega) (by omega)
  rw [wkA]
  obtain ⟨o, eo, o1, o2⟩ := Xnr w _ 5000 ⟨d0, by omega⟩ (by omega)
  rw [eo, Xad]
  exact ⟨o, rfl, o1, o2⟩
 ·
  rw [decide_eq_false hw, Xay, Xad, Xaz]
  exact ⟨0, rfl, by omega, by omega⟩
theorem Xnn (l qp p : Int) (hl : -5000 ≤ l ∧ l ≤ 5000) (h0 : 0 ≤ qp ∧ qp ≤ 40) (hp : 0 ≤ p ∧ p ≤ 15) : ∃ o, Xeo l qp p = some o ∧ -10000000 ≤ o ∧ o ≤ 10000000 := by
 unfold Xeo
 obtain ⟨s, es, q0, q1⟩ := Ybr qp p h0 hp
 rw [Xai, Xad, decide_eq_true hl, Bool.not_true, Xay, es, Xad]
 have m1 : l * s ≤ 5000 * s := Int.mul_le_mul_of_nonneg_right hl.2 q0
 have m2 : -5000 * s ≤ l * s := Int.mul_le_mul_of_nonneg_right hl.1 q0
 rw [wkA]
 exact ⟨_, rfl, by omega, by omega⟩
theorem Xnm (l qp : Int) (hl : -5000 ≤ l ∧ l ≤ 5000) (h0 : 0 ≤ qp ∧ qp ≤ 40) : ∃ o, Xen l qp = some o ∧ -5760000 ≤ o ∧ o ≤ 5760000 := by
 unfold Xen
 obtain ⟨s, es, q0, q1⟩ := Xrg qp h0
 rw [Xai, Xad, decide_eq_true hl, Bool.not_true, Xay, es, Xad]
 have m1 : l * s ≤ 5000 * s := Int.mul_le_mul_of_nonneg_right hl.2 (by omega)
 have m2 : -5000 * s ≤ l * s := Int.mul_le_mul_of_nonneg_right hl.1 (by omega)
 rw [wkA]
 exact ⟨_, rfl, by omega, by omega⟩
theorem Yjp {l : List Int} (h1 : l.length = 64) (h2 : inB 5000 l) : Ych l = true := by
 unfold Ych
 rw [Bool.and_eq_true, decide_eq_true_eq, List.all_eq_true]
 exact ⟨h1, fun x hx => by unfold Yqu; rw [decide_eq_true_eq]; exact h2 x hx⟩
theorem Xvx {l : List Int} (h : Ych l = true) : l.length = 64 ∧ inB 5000 l := by
 obtain ⟨h1, h2⟩ := Ylw h
 refine ⟨h1, fun x hx => ?_⟩
 have := List.all_eq_true.1 h2 x hx
 unfold Yqu at this
 rwa [decide_eq_true_eq] at this
theorem Xss {c : Cond} (h : Xin c = true) : 0 ≤ c.Qp ∧ c.Qp ≤ 40 := by
 unfold Xin at h
 rw [Bool.and_eq_true, decide_eq_true_eq] at h
 exact h.1
theorem Xms (p : List Int) (k : Nat) (hk : k < 4) (B : Int) (hl : p.length = 64) (hb : inB B p) : ∃ o, Xdt p k = some o ∧ o.length = 16 ∧ inB B o := by
 have hm : maxLen = 9223372036854775807 := rfl
 unfold Xdt
 obtain ⟨o, e, h1, h2⟩ := Xc1 (f := Xbe p k) 16 (fun i s => s.length = i ∧ inB B s) (by
  intro i s hi ⟨g1, g2⟩
  have ha := Xks hb (i := (8 * ((k : Int) / 2 * 4 + (i : Int) / 4) + (k : Int) % 2 * 4 + (i : Int) % 4).toNat) (by omega)
  unfold Xbe
  simp only
  rw [syA, rqA, rqA, rqA, rqA, Xcr (a := (k : Int)) (by omega), Xcr (a := (i : Int)) (by omega), Xc7 (a := (k : Int)) (by omega), Xc7 (a := (i : Int)) (by omega), wkA (e := (k : Int) / 2), wkA (e := (k : Int) / 2 * 4), wkA (e := (i : Int) / 4), wkA (e := (k : Int) / 2 * 4 + (i : Int) / 4), wkA (e := 8 * ((k : Int) / 2 * 4 + (i : Int) / 4)), wkA (e := (k : Int) % 2 * 4), wkA (e := 8 * ((k : Int) / 2 * 4 + (i : Int) / 4) + (k : Int) % 2 * 4), wkA (e := 8 * ((k : Int) / 2 * 4 + (i : Int) / 4) + (k : Int) % 2 * 4 + (i : Int) % 4), rqA, Xbn (by simp only [List.length_singleton]; omega), wkA (e := (i : Int) + 1)]
  exact ⟨_, rfl, by simp; omega, Xii g2 (Yay ha)⟩) (by intro s; unfold Xbe; rw [Xav (by simp)]) [] ⟨rfl, Xpr _⟩
 exact ⟨o, (Xkv e).trans rfl, h1, h2⟩
theorem Xh2 (p : List Int) (c : Cond) (hc : Xin c = true) (hl : p.length = 64) (hb : inB 255 p) : ∃ o, Xb6 p c = some (o, true) ∧ Ych o = true := by
 have hm : maxLen = 9223372036854775807 := rfl
 have hq := Xss hc
 unfold Xb6
 rw [Xbp, Xad, hc, Xaz, Xb8 p 64 255 (by omega) (by omega) (by omega) hb, Xad, Bool.not_true, Xad, Xay]
 cases hE : c.Exact with
 | true =>
  obtain ⟨o, e, h1, h2⟩ := Xl8 8 (Or.inr rfl) p 255 (by omega) hb
  rw [Xaz, e, Xad]
  exact ⟨o, rfl, Yjp (by omega) (Xmk h2 (by omega))⟩
 | false =>
  rw [Xay]
  cases hL : c.Large with
  | true =>
   obtain ⟨w, ew, w1⟩ := Xuc p hl hb
   obtain ⟨l, el, l1, l2⟩ := Xkg (f := Xbi c) 64 (fun _ => True) (fun x => -5000 ≤ x ∧ x ≤ 5000) (by
    intro i l hi hll _
    obtain ⟨d, ed, d1, d2⟩ := Xmp (l.getD i 0) c.Qp hq
    unfold Xbi
    simp only [Int.toNat_natCast]
    rw [syA, rqA, rqA, ed, Xad, rqA, rqA, wkA (e := (i : Int) + 1)]
    exact ⟨d, rfl, d1, d2⟩) (by intro s; unfold Xbi; rw [Xav (by simp)]) w w1 (fun _ _ => trivial)
   obtain ⟨o, e, h1, h2⟩ := Xl8 8 (Or.inr rfl) l 5000 (by omega) l2
   rw [Xaz, ew, Xad, el, Xad, e, Xad]
   exact ⟨o, rfl, Yjp (by omega) h2⟩
  | false =>
   obtain ⟨o, eo, o1, o2⟩ := Xc1 (f := Xcm p c) 4 (fun k s => s.length = 16 * k ∧ inB 5000 s) (by
    intro k s hk ⟨g1, g2⟩
    obtain ⟨a, ea, a1, a2⟩ := Xms p k hk 255 hl hb
    obtain ⟨b, eb, b1, b2⟩ := Xw1 a a1 a2
    obtain ⟨l, el, l1, l2⟩ := Xkg (f := Xbc c) 16 (fun x => -9180 ≤ x ∧ x ≤ 9180) (fun x => -5000 ≤ x ∧ x ≤ 5000) (by
     intro i l hi hll hx
     obtain ⟨d, ed, d1, d2⟩ := Xmr (l.getD i 0) c.Qp i hx hq (by omega)
     unfold Xbc
     simp only [Int.toNat_natCast]
     rw [syA, rqA, rqA, ed, Xad, rqA, rqA, wkA (e := (i : Int) + 1)]
     exact ⟨d, rfl, d1, d2⟩) (by intro s; unfold Xbc; rw [Xav (by simp)]) b b1 b2
    obtain ⟨r, er, r1, r2⟩ := Xl8 4 (Or.inl rfl) l 5000 (by omega) l2
    unfold Xcm
    simp only
    rw [syA, ea, Xad, eb, Xad, el, Xad, er, Xad]
    simp only
    rw [rqA, wkA (e := (k : Int) + 1)]
    exact ⟨_, rfl, by rw [List.length_append]; omega, Xii g2 r2⟩) (by intro s; unfold Xcm; rw [Xav (by simp)]) [] ⟨rfl, Xpr _⟩
   rw [Xay, eo, Xad]
   exact ⟨o, rfl, Yjp (by omega) o2⟩
theorem Xgc (p : List Int) (c : Cond) (hc : Xin c = true) (hp : Ych p = true) : ∃ o, Xcu p c = some (o, true) ∧ o.length = 64 ∧ inB 10000000 o := by
 have hm : maxLen = 9223372036854775807 := rfl
 have hq := Xss hc
 obtain ⟨hl, hb⟩ := Xvx hp
 unfold Xcu
 rw [Xbp, Xad, hc, Xaz, Xb8 p 64 5000 (by omega) (by omega) (by omega) hb, Xad, Bool.not_true, Xad, Xay]
 cases hE : c.Exact with
 | true =>
  obtain ⟨o, e, h1, h2⟩ := Xe6 8 (Or.inr rfl) p 5000 (by omega) (by omega) hb
  rw [Xaz, e, Xad]
  exact ⟨o, rfl, by omega, Xmk h2 (by omega)⟩
 | false =>
  rw [Xay]
  cases hL : c.Large with
  | true =>
   obtain ⟨w, ew, w1, w2⟩ := Xe6 8 (Or.inr rfl) p 5000 (by omega) (by omega) hb
   obtain ⟨l, el, l1, l2⟩ := Xkg (f := Xa6 c) 64 (fun x => -5000 ≤ x ∧ x ≤ 5000) (fun x => -5760000 ≤ x ∧ x ≤ 5760000) (by
    intro i l hi hll hx
    obtain ⟨d, ed, d1, d2⟩ := Xnm (l.getD i 0) c.Qp hx hq
    unfold Xa6
    simp only [Int.toNat_natCast]
    rw [syA, rqA, rqA, ed, Xad, rqA, rqA, wkA (e := (i : Int) + 1)]
    exact ⟨d, rfl, d1, d2⟩) (by intro s; unfold Xa6; rw [Xav (by simp)]) w (by omega) w2
   obtain ⟨o, e, h1, h2⟩ := Xv5 l l1 l2
   rw [Xaz, ew, Xad, el, Xad, e, Xad]
   exact ⟨o, rfl, h1, h2⟩
  | false =>
   obtain ⟨o, eo, o1, o2⟩ := Xc1 (f := Xbv p c) 4 (fun k s => s.length = 64 ∧ inB 10000000 s) (by
    intro k s hk ⟨g1, g2⟩
    have hcut : ((p.drop (16 * k)).take 16).length = 16 := by rw [List.length_take, List.length_drop]; omega
    obtain ⟨a, ea, a1, a2⟩ := Xe6 4 (Or.inl rfl) ((p.drop (16 * k)).take 16) 5000 (by omega) (by omega) (Ykk (Yki hb _) _)
    obtain ⟨l, el, l1, l2⟩ := Xkg (f := Xa4 c) 16 (fun x => -5000 ≤ x ∧ x ≤ 5000) (fun x => -10000000 ≤ x ∧ x ≤ 10000000) (by
     intro i l hi hll hx
     obtain ⟨d, ed, d1, d2⟩ := Xnn (l.getD i 0) c.Qp i hx hq (by omega)
     unfold Xa4
     simp only [Int.toNat_natCast]
     rw [syA, rqA, rqA, ed, Xad, rqA, rqA, wkA (e := (i : Int) + 1)]
     exact ⟨d, rfl, d1, d2⟩) (by intro s; unfold Xa4; rw [Xav (by simp)]) a (by omega) a2
    obtain ⟨b, eb, b1, b2⟩ := Xou l l1 l2
    obtain ⟨r, er, r1, r2⟩ := Xc1 (f := Xa7 ((k : Int), s) b) 16 (fun i s => s.length = 64 ∧ inB 10000000 s) (by
     intro i s hi ⟨g1, g2⟩
     have ha := Xks b2 (i := i) (by omega)
     unfold Xa7
     simp only
     rw [syA, rqA, rqA, rqA, rqA, rqA, rqA, Xcr (a := (k : Int)) (by omega), Xcr (a := (i : Int)) (by omega), Xc7 (a := (k : Int)) (by omega), Xc7 (a := (i : Int)) (by omega), wkA (e := (k : Int) / 2), wkA (e := (k : Int) / 2 * 4), wkA (e := (i : Int) / 4), wkA (e := (k : Int) / 2 * 4 + (i : Int) / 4), wkA (e := 8 * ((k : Int) / 2 * 4 + (i : Int) / 4)), wkA (e := (k : Int) % 2 * 4), wkA (e := 8 * ((k : Int) / 2 * 4 + (i : Int) / 4) + (k : Int) % 2 * 4), wkA (e := 8 * ((k : Int) / 2 * 4 + (i : Int) / 4) + (k : Int) % 2 * 4 + (i : Int) % 4), rqA, rqA, wkA (e := (i : Int) + 1), Int.toNat_natCast]
     exact ⟨_, rfl, by rw [List.length_set]; exact g1, Yji g2 _ ha⟩) (by intro s; unfold Xa7; rw [Xav (by simp)]) s ⟨g1, g2⟩
    unfold Xbv
    simp only
    rw [syA, wkA (e := 16 * (k : Int)), wkA (e := 16 * (k : Int) + 16), rqA, show (16 * (k : Int)).toNat = 16 * k by omega, show (16 * (k : Int) + 16).toNat - 16 * k = 16 by omega, ea, Xad, el, Xad, eb, Xad, er, Xad, wkA (e := (k : Int) + 1)]
    exact ⟨_, rfl, r1, r2⟩) (by intro s; unfold Xbv; rw [Xav (by simp)]) (List.replicate (64 : Int).toNat 0) ⟨by simp, Yjh _ (by omega)⟩
   rw [Xay, rqA, eo, Xad]
   exact ⟨o, rfl, o1, o2⟩
theorem Xc0 (l : List Int) (h : Xa8 l = true) : Xdc l = some true := by
 obtain ⟨h1, h2⟩ := Xa9 h
 unfold Xdc
 rw [Xc5 (by simp only [bne_eq_false_iff_eq]; omega), Xpy l.length (f := Xcy l) (by
  intro i hi
  have := h2 i (by omega)
  unfold Xcy
  rw [syA, rqA, Xai, Xad, Int.toNat_natCast, decide_eq_true this, Bool.not_true, Xay, wkA]
  rfl) (by unfold Xcy; rw [snA]), Xad]
theorem Yhc {l : List Int} (h1 : l.length = 64) (h2 : ∀ x ∈ l, 0 ≤ x ∧ x ≤ 255) : Xa8 l = true := by
 unfold Xa8
 rw [Bool.and_eq_true, decide_eq_true_eq, List.all_eq_true]
 exact ⟨h1, fun x hx => by unfold Yi8; rw [decide_eq_true_eq]; exact h2 x hx⟩
theorem Xkj (g b : List Int) (hg : Xa8 g = true) (hl : b.length = 64) (hb : inB 10000000 b) : ∃ o, Xgw g b = some o ∧ Xa8 o = true := by
 have hm : maxLen = 9223372036854775807 := rfl
 obtain ⟨g1, g2⟩ := Xa9 hg
 unfold Xgw
 rw [Xc0 g hg, Xad, Xaz, Xb8 b 64 10000000 (by omega) (by omega) (by omega) hb, Xad, Bool.not_true, Xad, Xay]
 obtain ⟨o, e, h1, h2⟩ := Xc1 (f := Xem g b) 64 (fun i s => s.length = i ∧ ∀ x ∈ s, 0 ≤ x ∧ x ≤ 255) (by
  intro i s hi ⟨k1, k2⟩
  have ha := Xks hb (i := i) (by omega)
  have hd := g2 i hi
  have br := Xlg (n := g.getD i 0 + b.getD i 0) (a := 0) (b := 255) (by omega)
  unfold Xem
  simp only [Int.toNat_natCast]
  rw [syA, rqA, rqA, wkA (e := g.getD i 0 + b.getD i 0), Xe1, Xad, Xbn (by simp only [List.length_singleton]; omega), wkA (e := (i : Int) + 1)]
  refine ⟨_, rfl, by simp; omega, fun x hx => ?_⟩
  rcases List.mem_append.1 hx with hx | hx
  ·
   exact k2 x hx
  ·
   rw [List.mem_singleton.1 hx]; exact br) (by intro s; unfold Xem; rw [Xav (by simp)]) [] ⟨rfl, fun x hx => by simp at hx⟩
 exact ⟨o, (Xkv e).trans rfl, Yhc h1 h2⟩
theorem Xmb (a b : List Int) (ha : Xa8 a = true) (hb : Xa8 b = true) : ∃ o, Xed a b = some o ∧ o.length = 64 ∧ inB 255 o := by
 have hm : maxLen = 9223372036854775807 := rfl
 obtain ⟨a1, a2⟩ := Xa9 ha
 obtain ⟨b1, b2⟩ := Xa9 hb
 unfold Xed
 obtain ⟨o, e, h1, h2⟩ := Xc1 (f := Xdv a b) 64 (fun i s => s.length = i ∧ inB 255 s) (by
  intro i s hi ⟨k1, k2⟩
  have x := a2 i hi
  have y := b2 i hi
  unfold Xdv
  simp only [Int.toNat_natCast]
  rw [syA, rqA, rqA, wkA (e := a.getD i 0 - b.getD i 0), Xbn (by simp only [List.length_singleton]; omega), wkA (e := (i : Int) + 1)]
  exact ⟨_, rfl, by simp; omega, Xii k2 (Yay (by omega))⟩) (by intro s; unfold Xdv; rw [Xav (by simp)]) [] ⟨rfl, Xpr _⟩
 exact ⟨o, (Xkv e).trans rfl, h1, h2⟩
theorem Xqf (l : List Int) (hl : l.length ≤ 1000000) : ∃ b, Xfe l = some b := by
 unfold Xfe
 have key : ∀ i : Nat, i ≤ l.length → ∃ o, loop (Xb7 l) (i : Int) = some o := by
  refine Xio _ ?_ ?_
  ·
   exact ⟨_, Xj0 (by unfold Xb7; rw [snA])⟩
  ·
   intro i hi ⟨o, ih⟩
   cases h : (l.getD i 0 != 0) with
   | true => exact ⟨_, Xj0 (by unfold Xb7; rw [syA, rqA, Int.toNat_natCast, h, Xaz])⟩
   | false => exact ⟨o, lgo (by unfold Xb7; rw [syA, rqA, Int.toNat_natCast, h, Xay, wkA]; rfl) ih⟩
 obtain ⟨o, e⟩ := key 0 (by omega)
 cases o with
 | out u => exact ⟨true, (Xkv e).trans rfl⟩
 | ret r => exact ⟨r, (Xkv e).trans rfl⟩
def Xpe (e : Xg4) : Prop := (e.Above.length = 0 ∨ e.Above.length = 8) ∧ (e.Left.length = 0 ∨ e.Left.length = 8) ∧ (∀ x ∈ e.Above, 0 ≤ x ∧ x ≤ 255) ∧ (∀ x ∈ e.Left, 0 ≤ x ∧ x ≤ 255) ∧ -1 ≤ e.Corner ∧ e.Corner ≤ 255
theorem Xk6 {p : Pic} (ok : Xb1 p = true) (x y : Int) : Xf4 p x y 8 8 = some (Xbj p x y) := by
 obtain ⟨k1, k2, k3⟩ := Xa5 ok
 unfold Xf4 Xbj
 rw [Xcn, Xad, ok, Xaz, Xai, Xad, Xai, Xad, wkA (e := p.Wide - 8), wkA (e := p.High - 8), Xai, Xad, Xai, Xad]
 simp only [Xgt, Xad]
 congr 1
 rw [Bool.eq_iff_iff]
 simp only [Bool.and_eq_true, decide_eq_true_eq]
 omega
theorem Xcf {p : Pic} (ok : Xb1 p = true) {x y : Int} (hx : x.tmod 8 = 0) (hy : y.tmod 8 = 0) (h : Xbj p x y = true) : Xfd p x y = some true := by
 unfold Xfd
 rw [rqA, hx, rqA, hy, Xk6 ok, Xad, h]
 rfl
theorem Xi9 {p : Pic} (ok : Xb1 p = true) {x y : Int} (hx : x.tmod 8 = 0) (hy : y.tmod 8 = 0) (h : Xbj p x y = true) : ∃ e, Xea p x y = some (e, true) ∧ Xpe e := by
 have hm : maxLen = 9223372036854775807 := rfl
 obtain ⟨k1, k2, k3⟩ := Xa5 ok
 have h' := h
 unfold Xbj at h'
 rw [decide_eq_true_eq] at h'
 unfold Xea
 rw [Xcf ok hx hy h, Xad, Bool.not_true, Xay]
 obtain ⟨o, e, o1, o2, o3, o4, o5, o6⟩ := Xc1 (f := Xdp p x y) 8 (fun i s => (y > 0 → s.1.length = i) ∧ (¬ y > 0 → s.1.length = 0) ∧ (x > 0 → s.2.length = i) ∧ (¬ x > 0 → s.2.length = 0) ∧ (∀ z ∈ s.1, 0 ≤ z ∧ z ≤ 255) ∧ (∀ z ∈ s.2, 0 ≤ z ∧ z ≤ 255)) (by
  intro i s hi ⟨g1, g2, g3, g4, g5, g6⟩
  obtain ⟨a, b⟩ := s
  simp only at g1 g2 g3 g4 g5 g6
  have d1 := Xn0 p (x + i) (y - 1)
  have d2 := Xn0 p (x - 1) (y + i)
  have st1 : ∃ a', (sel (decide (y > 0)) (bnd (Xe2 p (Xaa .i64 (x + (i : Int))) (Xaa .i64 (y - 1))) fun q16 => req ((a.length + ([q16]).length) * 8 ≤ 140737488355328 ∧ a.length + ([q16]).length ≤ maxLen) <| some (a ++ ([q16]))) (some a)) = some a' ∧ (y > 0 → a'.length = i + 1) ∧ (¬ y > 0 → a'.length = 0) ∧ (∀ z ∈ a', 0 ≤ z ∧ z ≤ 255) := by
   by_cases c : y > 0
   ·
    rw [Xbu c, wkA (e := x + (i : Int)), wkA (e := y - 1), Xi8 ok, Xad, Xbn (by simp only [List.length_singleton]; have := g1 c; omega)]
    refine ⟨_, rfl, fun _ => by simp; exact g1 c, fun hn => absurd c hn, fun z hz => ?_⟩
    rcases List.mem_append.1 hz with hz | hz
    ·
     exact g5 z hz
    ·
     rw [List.mem_singleton.1 hz]; exact d1
   ·
    rw [Xav c]
    exact ⟨_, rfl, fun hn => absurd hn c, fun _ => g2 c, g5⟩
  obtain ⟨a', ea, a1, a2, a3⟩ := st1
  have st2 : ∃ b', (sel (decide (x > 0)) (bnd (Xe2 p (Xaa .i64 (x - 1)) (Xaa .i64 (y + (i : Int)))) fun q17 => req ((b.length + ([q17]).length) * 8 ≤ 140737488355328 ∧ b.length + ([q17]).length ≤ maxLen) <| some (a', (b ++ ([q17])))) (some (a', b))) = some (a', b') ∧ (x > 0 → b'.length = i + 1) ∧ (¬ x > 0 → b'.length = 0) ∧ (∀ z ∈ b', 0 ≤ z ∧ z ≤ 255) := by
   by_cases c : x > 0
   ·
    rw [Xbu c, wkA (e := y + (i : Int)), wkA (e := x - 1), Xi8 ok, Xad, Xbn (by simp only [List.length_singleton]; have := g3 c; omega)]
    refine ⟨_, rfl, fun _ => by simp; exact g3 c, fun hn => absurd c hn, fun z hz => ?_⟩
    rcases List.mem_append.1 hz with hz | hz
    ·
     exact g6 z hz
    ·
     rw [List.mem_singleton.1 hz]; exact d2
   ·
    rw [Xav c]
    exact ⟨_, rfl, fun hn => absurd hn c, fun _ => g4 c, g6⟩
  obtain ⟨b', eb, b1, b2, b3⟩ := st2
  unfold Xdp
  simp only
  rw [syA, ea, Xad, eb, Xad, wkA (e := (i : Int) + 1)]
  exact ⟨(a', b'), rfl, a1, a2, b1, b2, a3, b3⟩) (by intro s; unfold Xdp; rw [Xav (by simp)]) ([], []) ⟨fun _ => rfl, fun _ => rfl, fun _ => rfl, fun _ => rfl, fun z hz => by simp at hz, fun z hz => by simp at hz⟩
 rw [e, Xad, Xgt, Xad]
 have d3 := Xn0 p (x - 1) (y - 1)
 have ha : o.1.length = 0 ∨ o.1.length = 8 := by
  by_cases c : y > 0
  ·
   exact Or.inr (o1 c)
  ·
   exact Or.inl (o2 c)
 have hb : o.2.length = 0 ∨ o.2.length = 8 := by
  by_cases c : x > 0
  ·
   exact Or.inr (o3 c)
  ·
   exact Or.inl (o4 c)
 cases hc : (decide (x > 0) && decide (y > 0)) with
 | true =>
  rw [Xaz, wkA (e := x - 1), wkA (e := y - 1), Xi8 ok, Xad, Xad]
  exact ⟨_, rfl, ha, hb, o5, o6, by simp only; omega, by simp only; omega⟩
 | false =>
  rw [Xay, Xad]
  exact ⟨_, rfl, ha, hb, o5, o6, by simp only; omega, by simp only; omega⟩
theorem Xo4 (l : List Int) (hl : l.length = 0 ∨ l.length = 8) (h : ∀ x ∈ l, 0 ≤ x ∧ x ≤ 255) : Xil l = some true := by
 unfold Xil
 have hc : (sel ((l.length : Int) != 0) (some ((l.length : Int) != 8)) (some false)) = some false := by
  rcases hl with e | e
  ·
   rw [e]; rfl
  ·
   rw [e]; rfl
 rw [hc, Xad, Xay, Xpy l.length (f := Xg2 l) (by
  intro i hi
  have := h (l.getD i 0) (by rw [Xff l i hi]; exact List.getElem_mem _)
  unfold Xg2
  rw [syA, rqA, Xai, Xad, Int.toNat_natCast, decide_eq_true this, Bool.not_true, Xay, wkA]
  rfl) (by unfold Xg2; rw [snA]), Xad]
theorem Xh1 {e : Xg4} (h : Xpe e) : Xij e = some true := by
 obtain ⟨h1, h2, h3, h4, h5, h6⟩ := h
 unfold Xij
 rw [Xo4 _ h1 h3, Xad, Xaz, Xo4 _ h2 h4, Xad, Xaz, Xai, Xad, decide_eq_true ⟨h5, h6⟩, Xad]
theorem Xnu (l : List Int) (k : Nat) (hk : k < 8) (hl : l.length = 0 ∨ l.length = 8) (h : ∀ x ∈ l, 0 ≤ x ∧ x ≤ 255) : ∃ x, Xcq l k = some x ∧ 0 ≤ x ∧ x ≤ 255 := by
 unfold Xcq
 rcases hl with e | e
 ·
  rw [Xhj (by rw [e]; rfl)]; exact ⟨_, rfl, by omega, by omega⟩
 ·
  rw [Xc5 (by rw [e]; rfl), rqA, Int.toNat_natCast]
  exact ⟨_, rfl, h _ (by rw [Xff l k (by omega)]; exact List.getElem_mem _)⟩
theorem Xrh {e : Xg4} (h : Xpe e) : ∃ x, Xia e = some x ∧ 0 ≤ x ∧ x ≤ 255 := by
 obtain ⟨h1, h2, h3, h4, _, _⟩ := h
 unfold Xia
 rw [wkA (e := (e.Above.length : Int) + (e.Left.length : Int))]
 by_cases hz : (e.Above.length : Int) + (e.Left.length : Int) = 0
 ·
  rw [Xhj (by simpa using hz)]; exact ⟨_, rfl, by omega, by omega⟩
 ·
  rw [Xc5 (by simpa using hz), rqA, Xcr (by omega), wkA (e := ((e.Above.length : Int) + (e.Left.length : Int)) / 2)]
  obtain ⟨a, ea, a1, a2⟩ := Xmf (f := Xf5 e) e.Above.length (fun i s => 0 ≤ s ∧ s ≤ ((e.Above.length : Int) + (e.Left.length : Int)) / 2 + 255 * i) (by
   intro i s hi ⟨g1, g2⟩
   have := h3 (e.Above.getD i 0) (by rw [Xff _ i hi]; exact List.getElem_mem _)
   unfold Xf5
   simp only [Int.toNat_natCast]
   rw [syA, rqA, wkA (e := s + e.Above.getD i 0), wkA (e := (i : Int) + 1)]
   exact ⟨_, rfl, by omega, by omega⟩) (by intro s; unfold Xf5; rw [Xav (by simp)]) (((e.Above.length : Int) + (e.Left.length : Int)) / 2) ⟨by omega, by omega⟩
  obtain ⟨b, eb, b1, b2⟩ := Xmf (f := Xf6 e) e.Left.length (fun i s => 0 ≤ s ∧ s ≤ ((e.Above.length : Int) + (e.Left.length : Int)) / 2 + 255 * e.Above.length + 255 * i) (by
   intro i s hi ⟨g1, g2⟩
   have := h4 (e.Left.getD i 0) (by rw [Xff _ i hi]; exact List.getElem_mem _)
   unfold Xf6
   simp only [Int.toNat_natCast]
   rw [syA, rqA, wkA (e := s + e.Left.getD i 0), wkA (e := (i : Int) + 1)]
   exact ⟨_, rfl, by omega, by omega⟩) (by intro s; unfold Xf6; rw [Xav (by simp)]) a ⟨by omega, by omega⟩
  rw [ea, Xad, eb, Xad, Xbn hz, Xcr b1]
  have hn : (e.Above.length : Int) + (e.Left.length : Int) = 8 ∨ (e.Above.length : Int) + (e.Left.length : Int) = 16 := by omega
  have hr : 0 ≤ b / ((e.Above.length : Int) + (e.Left.length : Int)) ∧ b / ((e.Above.length : Int) + (e.Left.length : Int)) ≤ 255 := by
   rcases hn with hn | hn <;> rw [hn] <;> omega
  rw [wkA]
  exact ⟨_, rfl, hr⟩
theorem Xe4 (m : Int) (hm0 : 0 ≤ m ∧ m ≤ 3) {e : Xg4} (h : Xpe e) : ∃ g, Xcs m e = some g ∧ Xa8 g = true := by
 have hm : maxLen = 9223372036854775807 := rfl
 have h' := h
 obtain ⟨h1, h2, h3, h4, h5, h6⟩ := h'
 obtain ⟨mid, em, m1, m2⟩ := Xrh h
 unfold Xcs
 rw [Xh1 h, Xad, Xaz, Xai, Xad, decide_eq_true hm0, Bool.not_true, Xad, Xay]
 have hc : ∃ v, sel (decide (e.Corner < 0)) (some (128 : Int)) (some e.Corner) = some v ∧ 0 ≤ v ∧ v ≤ 255 := by
  by_cases c : e.Corner < 0
  ·
   rw [Xbu c]; exact ⟨_, rfl, by omega, by omega⟩
  ·
   rw [Xav c]; exact ⟨_, rfl, by omega, by omega⟩
 obtain ⟨v, ev, v1, v2⟩ := hc
 rw [ev, Xad]
 obtain ⟨o, eo, o1, o2⟩ := Xc1 (f := Xct m e v) 64 (fun i s => s.length = i ∧ ∀ x ∈ s, 0 ≤ x ∧ x ≤ 255) (by
  intro i s hi ⟨g1, g2⟩
  obtain ⟨a, ea, a1, a2⟩ := Xnu e.Above (i % 8) (by omega) h1 h3
  obtain ⟨b, eb, b1, b2⟩ := Xnu e.Left (i / 8) (by omega) h2 h4
  have br := Xlg (n := b + a - v) (a := 0) (b := 255) (by omega)
  have put : ∀ z : Int, 0 ≤ z ∧ z ≤ 255 → (s ++ [z]).length = i + 1 ∧ ∀ x ∈ s ++ [z], 0 ≤ x ∧ x ≤ 255 := by
   intro z hz
   refine ⟨by simp; omega, fun x hx => ?_⟩
   rcases List.mem_append.1 hx with hx | hx
   ·
    exact g2 x hx
   ·
    rw [List.mem_singleton.1 hx]; exact hz
  unfold Xct
  simp only
  rw [syA, rqA, Xc7 (by omega), show (i : Int) % 8 = ((i % 8 : Nat) : Int) by omega, ea, Xad, rqA, Xcr (by omega), wkA (e := (i : Int) / 8), show (i : Int) / 8 = ((i / 8 : Nat) : Int) by omega, eb, Xad, wkA (e := (i : Int) + 1), em]
  cases (m == 0) with
  | true =>
   rw [Xaz, Xad, Xbn (by simp only [List.length_singleton]; omega), Xad]
   exact ⟨_, rfl, put _ ⟨m1, m2⟩⟩
  | false =>
   rw [Xay]
   cases (m == 1) with
   | true =>
    rw [Xaz, Xbn (by simp only [List.length_singleton]; omega), Xad]
    exact ⟨_, rfl, put _ ⟨a1, a2⟩⟩
   | false =>
    rw [Xay]
    cases (m == 2) with
    | true =>
     rw [Xaz, Xbn (by simp only [List.length_singleton]; omega), Xad]
     exact ⟨_, rfl, put _ ⟨b1, b2⟩⟩
    | false =>
     rw [Xay, wkA (e := b + a), wkA (e := b + a - v), Xe1, Xad, Xbn (by simp only [List.length_singleton]; omega), Xad]
     exact ⟨_, rfl, put _ br⟩) (by intro s; unfold Xct; rw [Xav (by simp)]) [] ⟨rfl, fun x hx => by simp at hx⟩
 exact ⟨o, (Xkv eo).trans rfl, Yhc o1 o2⟩
theorem Ykh {l : List Int} (h : Xa8 l = true) : l.length = 64 ∧ inB 1000 l := by
 simp only [Xa8, Bool.and_eq_true, decide_eq_true_eq] at h
 refine ⟨h.1, fun x hx => ?_⟩
 have := List.all_eq_true.1 h.2 x hx
 simp only [Yi8, decide_eq_true_eq] at this
 omega
theorem Xlf {a b : List Int} (ha : Xa8 a = true) (hb : Xa8 b = true) : Xll a b = some (Xlb a b 64) := by
 have la := Ykh ha
 have lb := Ykh hb
 unfold Xll
 rw [Xb8 a 64 1000 (by omega) (by omega) (by omega) la.2, Xad, Xaz, Xb8 b 64 1000 (by omega) (by omega) (by omega) lb.2, Xad, Bool.not_true, Xad, Xay]
 have key : ∀ i : Nat, i ≤ 64 → loop (Xja a b) (Xlb a b i, (i : Int)) = some (Xlb a b 64) := by
  refine Xio _ ?_ ?_
  ·
   exact Xj0 (by unfold Xja; rw [Xav (by simp)])
  ·
   intro i hi ih
   refine lgo (y := (Xlb a b (i + 1), ((i + 1 : Nat) : Int))) ?_ ih
   have p := (Xa9 ha).2 i hi
   have q := (Xa9 hb).2 i hi
   have g := Xib ha hb i (by omega)
   have ab : 0 ≤ Xwt (a.getD i 0 - b.getD i 0) ∧ Xwt (a.getD i 0 - b.getD i 0) ≤ 255 := by unfold Xwt; split <;> omega
   unfold Xja
   simp only [Int.toNat_natCast]
   rw [syA, rqA, rqA, wkA (e := a.getD i 0 - b.getD i 0), Xk5 _ (by omega), Xad, wkA (e := Xlb a b i + Xwt (a.getD i 0 - b.getD i 0)), wkA (e := (i : Int) + 1)]
   rfl
 exact (Xkv (key 0 (by omega))).trans rfl
theorem Ydw (m : Int) (h : 0 ≤ m ∧ m ≤ 3) : ∃ s, Xg0 m = some s ∧ 0 ≤ s ∧ s ≤ 39 := by
 have := Yob m.toNat (by omega)
 unfold Xg0 Xno
 rw [Xai, Xad, decide_eq_true (by omega), Bool.not_true, Xay, show m = ((m.toNat : Nat) : Int) by omega, Xoi _ (by omega), Xad, Xad]
 refine ⟨_, rfl, ?_⟩
 rw [strOfNums_size]; omega
theorem Xnl {w : List Int} (hw : Xa8 w = true) {e : Xg4} (h : Xpe e) : ∃ m c, Xek w e = some (m, c) ∧ 0 ≤ m ∧ m ≤ 3 := by
 unfold Xek
 rw [Xh1 h, Xad, Xaz, Xc0 w hw, Xad, Bool.not_true, Xad, Xay]
 obtain ⟨o, eo, o1, o2⟩ := Xod (f := Xcl w e) (fun v => (0 ≤ v.1 ∧ v.1 ≤ 3) ∧ 0 ≤ v.2.2 ∧ v.2.2 ≤ 4) (fun v => (4 - v.2.2).toNat) (fun _ o => 0 ≤ o.1 ∧ o.1 ≤ 3) (by
  intro ⟨m, c, i⟩ ⟨g1, g2, g3⟩
  simp only at g1 g2 g3
  unfold Xcl
  simp only
  by_cases hi : i < 4
  ·
   obtain ⟨g, eg, hg⟩ := Xe4 i ⟨g2, by omega⟩ h
   obtain ⟨s, es, s1, s2⟩ := Ydw i ⟨g2, by omega⟩
   rw [Xbu hi, eg, Xad, Xlf hw hg, Xad, es, Xad, Yk5, Xad, wkA (e := i + 1)]
   cases (decide (c < 0) || decide (Xaa IntKind.i64 (Xlb w g 64 + s) < c)) with
   | true => exact .inr ⟨_, rfl, ⟨by simp only; omega, by simp only; omega, by simp only; omega⟩, by simp only; omega, fun _ h => h⟩
   | false => exact .inr ⟨_, rfl, ⟨by simp only; omega, by simp only; omega, by simp only; omega⟩, by simp only; omega, fun _ h => h⟩
  ·
   rw [Xav hi]
   exact .inl ⟨_, rfl, g1⟩) (0, -1, 0) ⟨by simp, by simp, by simp⟩
 exact ⟨o.1, o.2, (Xkv eo).trans rfl, o1, o2⟩
theorem Xkk (d : Int) (h : -500000 ≤ d ∧ d ≤ 500000) : Xj6 d = some (Yk4 d) := by
 unfold Xj6 Xqn Yk4
 rw [Xai, Xad, decide_eq_true h, Bool.not_true, Xay, Ygs d h, Xad, Xad, strOfNums_size]
theorem Xx1 {p : Pic} {w : List Int} {x y r : Int} (ok : Xb1 p = true) (hw : Xa8 w = true) (hr : 0 ≤ r ∧ r ≤ 4) (hx : x.tmod 8 = 0) (hy : y.tmod 8 = 0) (h0 : Xbj p x y = true) :
  ∃ b, Xd7 p w x y r = some b ∧ (-4 ≤ b.1 ∧ b.1 ≤ 4) ∧ (-4 ≤ b.2.1 ∧ b.2.1 ≤ 4) := by
 obtain ⟨k1, k2, k3⟩ := Xa5 ok
 have h0' := h0
 unfold Xbj at h0'
 rw [decide_eq_true_eq] at h0'
 unfold Xd7
 rw [Xc0 w hw, Xad, Xaz, Xai, Xad, decide_eq_true hr, Xaz, Xcf ok hx hy h0, Xad, Bool.not_true, Xad, Xay, wkA (e := 0 - r)]
 obtain ⟨o, h, ho⟩ := Xod (f := Xdf p w x y r) (fun s => -r ≤ s.2.2.2 ∧ s.2.2.2 ≤ r + 1 ∧ (-4 ≤ s.1 ∧ s.1 ≤ 4) ∧ (-4 ≤ s.2.1 ∧ s.2.1 ≤ 4)) (fun s => (r + 1 - s.2.2.2).toNat) (fun _ b => (-4 ≤ b.1 ∧ b.1 ≤ 4) ∧ (-4 ≤ b.2.1 ∧ b.2.1 ≤ 4)) (by
  intro s ⟨g1, g2, g3⟩
  unfold Xdf
  by_cases hi : s.2.2.2 ≤ r
  ·
   rw [Xbu hi, wkA (e := s.2.2.2 + 1), wkA (e := 0 - r)]
   obtain ⟨o, h, ho⟩ := Xod (f := Xdg p w x y r s) (fun v => -r ≤ v.2.2.2 ∧ v.2.2.2 ≤ r + 1 ∧ (-4 ≤ v.1 ∧ v.1 ≤ 4) ∧ (-4 ≤ v.2.1 ∧ v.2.1 ≤ 4)) (fun v => (r + 1 - v.2.2.2).toNat) (fun _ b => (-4 ≤ b.1 ∧ b.1 ≤ 4) ∧ (-4 ≤ b.2.1 ∧ b.2.1 ≤ 4)) (by
    intro v ⟨f1, f2, f3⟩
    unfold Xdg
    by_cases hv : v.2.2.2 ≤ r
    ·
     rw [Xbu hv, wkA (e := x + v.2.2.2), wkA (e := y + s.2.2.2), wkA (e := v.2.2.2 + 1), Xk6 ok, Xad]
     cases hh : Xbj p (x + v.2.2.2) (y + s.2.2.2) with
     | false => exact .inr ⟨_, rfl, ⟨by simp only; omega, by simp only; omega, f3⟩, by simp only; omega, fun _ h => h⟩
     | true =>
      have hb := Xdh p (x + v.2.2.2) (y + s.2.2.2)
      rw [Bool.not_true, Xay, Xbo ok _ _ (by omega) (by omega), Xad, Xlf hw hb, Xad, Xkk _ (by omega), Xad, Xkk _ (by omega), Xad, Yk5, Xad]
      cases (decide (v.2.2.1 < 0) || decide (Xaa IntKind.i64 (Xaa IntKind.i64 (Xlb w (Xmg p (x + v.2.2.2) (y + s.2.2.2) 64) 64 + Yk4 v.2.2.2) + Yk4 s.2.2.2) < v.2.2.1)) with
      | true => exact .inr ⟨_, rfl, ⟨by simp only; omega, by simp only; omega, by simp only; omega⟩, by simp only; omega, fun _ h => h⟩
      | false => exact .inr ⟨_, rfl, ⟨by simp only; omega, by simp only; omega, f3⟩, by simp only; omega, fun _ h => h⟩
    ·
     rw [Xav hv]
     exact .inl ⟨_, rfl, f3⟩) (s.1, s.2.1, s.2.2.1, 0 - r) ⟨by simp only; omega, by simp only; omega, g3⟩
   rw [h, Xad]
   exact .inr ⟨_, rfl, ⟨by simp only; omega, by simp only; omega, ho⟩, by simp only; omega, fun _ h => h⟩
  ·
   rw [Xav hi]
   exact .inl ⟨_, rfl, g3⟩) (0, 0, -1, 0 - r) ⟨by simp only; omega, by simp only; omega, by simp, by simp⟩
 rw [h, Xad]
 exact ⟨_, rfl, ho⟩
theorem Yir : Xrj ⟨0, 0, 0, 0, []⟩ = true := rfl
theorem Xwm {m : Int} {l : List Int} (hm : 0 ≤ m ∧ m ≤ 3) (hl : Ych l = true) : Xrj ⟨2, m, 0, 0, l⟩ = true := by
 unfold Xrj
 simp only
 rw [if_neg (by omega), if_neg (by omega), if_pos trivial, hl, decide_eq_true hm]
 rfl
theorem Yiq {dx dy : Int} {l : List Int} (hx : -16 ≤ dx ∧ dx ≤ 16) (hy : -16 ≤ dy ∧ dy ≤ 16) (hl : Ych l = true) : Xrj ⟨1, 0, dx, dy, l⟩ = true := by
 unfold Xrj
 simp only
 rw [if_neg (by omega), if_pos trivial, hl, decide_eq_true hx, decide_eq_true hy]
 rfl
theorem Xwl {now ref : Pic} {w : List Int} {x y r : Int} {c : Cond} (ok : Xb1 now = true) (hx : x.tmod 8 = 0) (hy : y.tmod 8 = 0) (h0 : Xbj now x y = true) (hw : Xa8 w = true) (hc : Xin c = true) (hr : 0 ≤ r ∧ r ≤ 4)
  (hk : c.Key = false → Xb1 ref = true ∧ ref.Wide = now.Wide ∧ ref.High = now.High) : ∃ q, Xeq now ref w x y c r = some q ∧ Xrj q = true ∧ (c.Key = true → q.Kind = 2) ∧ (-4 ≤ q.Dx ∧ q.Dx ≤ 4) ∧ (-4 ≤ q.Dy ∧ q.Dy ≤ 4) := by
 obtain ⟨k1, k2, k3⟩ := Xa5 ok
 have h0' := h0
 unfold Xbj at h0'
 rw [decide_eq_true_eq] at h0'
 obtain ⟨e, ee, he⟩ := Xi9 ok hx hy h0
 obtain ⟨m, cost, em, m1, m2⟩ := Xnl hw he
 obtain ⟨g, eg, hg⟩ := Xe4 m ⟨m1, m2⟩ he
 obtain ⟨l, el, l1, l2⟩ := Xmb w g hw hg
 obtain ⟨v, ev, hv⟩ := Xh2 l c hc l1 l2
 unfold Xeq Ylu
 simp only
 cases hK : c.Key with
 | true =>
  rw [Xaz, Xad, Xay, ee, Xad, em, Xad, Bool.not_true, Xay, eg, Xad, el, Xad, ev, Xad]
  exact ⟨_, rfl, Xwm ⟨m1, m2⟩ hv, fun _ => rfl, by simp, by simp⟩
 | false =>
  obtain ⟨rok, rw', rh'⟩ := hk hK
  have h0r : Xbj ref x y = true := by unfold Xbj; rw [decide_eq_true_eq, rw', rh']; exact h0'
  obtain ⟨t, et, t1, t2⟩ := Xmb w _ hw (Xdh ref x y)
  obtain ⟨z, ez⟩ := Xqf t (by omega)
  rw [Xay, Xbo rok x y (by omega) (by omega), Xad, et, Xad, ez, Xad, Xad]
  cases z with
  | true => exact ⟨_, rfl, Yir, (fun h => by cases h), by simp, by simp⟩
  | false =>
   obtain ⟨b, eb, b1, b2⟩ := Xx1 (r := r) rok hw hr hx hy h0r
   rw [Xay, ee, Xad, em, Xad, Bool.not_false, Xaz, eb, Xad]
   by_cases hcost : b.2.2 ≤ cost
   ·
    obtain ⟨t, et, t1, t2⟩ := Xmb w _ hw (Xdh ref (x + b.1) (y + b.2.1))
    obtain ⟨u, eu, hu⟩ := Xh2 t c hc t1 t2
    have hul := (Xvx hu).1
    obtain ⟨z, ez⟩ := Xqf u (by omega)
    rw [Xbu hcost, wkA (e := x + b.1), wkA (e := y + b.2.1), Xbo rok _ _ (by omega) (by omega), Xad, et, Xad, eu, Xad, ez, Xad, Xgt, Xgt, Xad]
    cases (b.1 == 0 && (b.2.1 == 0 && z)) with
    | true => exact ⟨_, rfl, Yir, (fun h => by cases h), by simp, by simp⟩
    | false => exact ⟨_, rfl, Yiq (by omega) (by omega) hu, (fun h => by cases h), b1, b2⟩
   ·
    rw [Xav hcost, eg, Xad, el, Xad, ev, Xad]
    exact ⟨_, rfl, Xwm ⟨m1, m2⟩ hv, (fun h => by cases h), by simp, by simp⟩
theorem Xul {now ref : Pic} {x y : Int} {c : Cond} {q : Xan} (ok : Xb1 now = true) (hx : x.tmod 8 = 0) (hy : y.tmod 8 = 0) (h0 : Xbj now x y = true) (hc : Xin c = true) (hq : Xrj q = true) (hd : (-4 ≤ q.Dx ∧ q.Dx ≤ 4) ∧ (-4 ≤ q.Dy ∧ q.Dy ≤ 4))
  (hk : q.Kind ≠ 2 → c.Key = false ∧ Xb1 ref = true) : ∃ d, Xbq now ref 0 0 c x y q = some (d, true) ∧ Xa8 d = true := by
 obtain ⟨k1, k2, k3⟩ := Xa5 ok
 have h0' := h0
 unfold Xbj at h0'
 rw [decide_eq_true_eq] at h0'
 unfold Xbq
 rw [Xcf ok hx hy h0, Xad, Xaz, Xai, Xad, decide_eq_true (by omega), Xaz, Xad, Xaz, Xow, Xad, hq, Xaz, Xbp, Xad, hc, Bool.not_true, Xad, Xay]
 by_cases h2 : q.Kind = 2
 ·
  obtain ⟨hm, hl⟩ := Yk7 hq h2
  obtain ⟨e, ee, he⟩ := Xi9 ok hx hy h0
  obtain ⟨b, eb, b1, b2⟩ := Xgc q.Levels c hc hl
  obtain ⟨g, eg, hg⟩ := Xe4 q.Mode hm he
  obtain ⟨j, ej, hj⟩ := Xkj g b hg b1 b2
  rw [Xhj (by simpa using h2), ee, Xad, eb, Xad, eg, Xad, ej, Xad]
  exact ⟨j, rfl, hj⟩
 ·
  obtain ⟨hK, rok⟩ := hk h2
  rw [Xc5 (by simpa using h2), hK, Xay, Xcn, Xad, rok, Bool.not_true, Xad, Xay, wkA (e := 0 + x), wkA (e := 0 + x + q.Dx), wkA (e := 0 + y), wkA (e := 0 + y + q.Dy), Xbo rok _ _ (by omega) (by omega), Xad]
  by_cases h3 : q.Kind = 0
  ·
   rw [Xhj (by simpa using h3)]
   exact ⟨_, rfl, Xdh _ _ _⟩
  ·
   have h1 : q.Kind = 1 := by have := Ycb hq; omega
   obtain ⟨_, _, hl⟩ := Ygt hq h1
   obtain ⟨b, eb, b1, b2⟩ := Xgc q.Levels c hc hl
   obtain ⟨j, ej, hj⟩ := Xkj _ b (Xdh ref (0 + x + q.Dx) (0 + y + q.Dy)) b1 b2
   rw [Xc5 (by simpa using h3), eb, Xad, ej, Xad]
   exact ⟨j, rfl, hj⟩
def Yf1 (p q : Pic) : Bool := Xb1 p && (Xb1 q && ((p.Wide == q.Wide) && (p.High == q.High)))
theorem Xg3 (p q : Pic) : Xee p q = some (Yf1 p q) := by
 unfold Xee Yf1
 rw [Xcn, Xad, Xcn, Xad]
 simp only [Xgt, Xad]
theorem Ya2 {p q : Pic} (h : Yf1 p q = true) : Xb1 q = true ∧ q.Wide = p.Wide ∧ q.High = p.High := by
 unfold Yf1 at h
 simp only [Bool.and_eq_true, beq_iff_eq] at h
 exact ⟨h.2.1, h.2.2.1.symm, h.2.2.2.symm⟩
theorem Yf2 {p q : Pic} (h1 : Xb1 p = true) (h2 : Xb1 q = true) (h3 : q.Wide = p.Wide) (h4 : q.High = p.High) : Yf1 p q = true := by
 unfold Yf1
 simp only [Bool.and_eq_true, beq_iff_eq]
 exact ⟨h1, h2, h3.symm, h4.symm⟩
theorem Xwd {now ref : Pic} {w : List Int} {x y r : Int} {c : Cond} (ok : Xb1 now = true) (hx : x.tmod 8 = 0) (hy : y.tmod 8 = 0) (h0 : Xbj now x y = true) (hw : Xa8 w = true) (hc : Xin c = true) (hr : 0 ≤ r ∧ r ≤ 4)
  (hk : c.Key = false → Xb1 ref = true ∧ ref.Wide = now.Wide ∧ ref.High = now.High) : ∃ q d, Xco now ref w x y c r = some (q, d, true) ∧ Xrj q = true ∧ Xa8 d = true ∧ (c.Key = true → q.Kind = 2) := by
 obtain ⟨q, eq, q1, q2, q3⟩ := Xwl ok hx hy h0 hw hc hr hk
 obtain ⟨d, ed, hd⟩ := Xul (ref := ref) ok hx hy h0 hc q1 q3 (fun h => by
  cases hK : c.Key with
  | true => exact absurd (q2 hK) h
  | false => exact ⟨rfl, (hk hK).1⟩)
 unfold Xco
 have hl : sel c.Key (some false) (bnd (Xee now ref) fun q6 => some (!q6)) = some false := by
  cases hK : c.Key with
  | true => rfl
  | false =>
   obtain ⟨a1, a2, a3⟩ := hk hK
   rw [Xay, Xg3, Xad, Yf2 ok a1 a2 a3]; rfl
 rw [Xcf ok hx hy h0, Xad, Xaz, Xc0 w hw, Xad, Xaz, Xbp, Xad, hc, Xaz, Xai, Xad, decide_eq_true hr, Xaz, hl, Xad, Xay, eq, Xad, ed, Xad]
 exact ⟨q, d, rfl, q1, hd, q2⟩
theorem Xm1 {p : Pic} {x y : Int} {d : List Int} (ok : Xb1 p = true) (h0 : Xbj p x y = true) (hd : Xa8 d = true) : ∃ p', Xdu p x y d = some p' ∧ Xb1 p' = true ∧ p'.Wide = p.Wide ∧ p'.High = p.High := by
 have hm : maxLen = 9223372036854775807 := rfl
 obtain ⟨k1, k2, k3⟩ := Xa5 ok
 have ar := Xfz k1 k2
 unfold Xbj at h0
 rw [decide_eq_true_eq] at h0
 have hdl := (Xa9 hd).1
 have hn := Xc4 p.Dots
 unfold Xdu
 rw [rqA]
 obtain ⟨o, e, o1⟩ := Xc1 (f := Xb2 p x y d) 64 (fun _ s => s.length = p.Dots.size) (by
  intro i s hi g1
  have b1 : 0 ≤ (y + (i : Int) / 8) * p.Wide := Int.mul_nonneg (by omega) (by omega)
  have b2 : (y + (i : Int) / 8) * p.Wide ≤ (p.High - 1) * p.Wide := Int.mul_le_mul_of_nonneg_right (by omega) (by omega)
  have b3 : (p.High - 1) * p.Wide = p.Wide * p.High - p.Wide := by rw [Int.sub_mul, Int.one_mul, Int.mul_comm]
  unfold Xb2
  simp only
  rw [syA, rqA, rqA, rqA, Xcr (by omega), Xc7 (by omega), wkA (e := (i : Int) / 8), wkA (e := y + (i : Int) / 8), wkA (e := (y + (i : Int) / 8) * p.Wide), wkA (e := (y + (i : Int) / 8) * p.Wide + x), wkA (e := (y + (i : Int) / 8) * p.Wide + x + (i : Int) % 8), rqA, rqA, wkA (e := (i : Int) + 1)]
  exact ⟨_, rfl, by rw [List.length_set]; exact g1⟩) (by intro s; unfold Xb2; rw [Xav (by simp)]) (Xfw p.Dots) hn
 refine ⟨_, (Xkv e).trans rfl, Xzh k1 k2 ?_, rfl, rfl⟩
 simp only
 rw [strOfNums_size]; omega
theorem Yip (w h : Int) (hw : 1 ≤ w ∧ w ≤ 256) (hh : 1 ≤ h ∧ h ≤ 256) : ∃ p, Xl2 w h = some p ∧ Xb1 p = true ∧ p.Wide = w ∧ p.High = h := by
 have ar := Xfz hw hh
 unfold Xl2
 rw [Xai, Xad, decide_eq_true hw, Xaz, Xai, Xad, decide_eq_true hh, Bool.not_true, Xad, Xay, wkA (e := w * h), show w * h = (((w * h).toNat : Nat) : Int) by omega, Xl9 _ _ (by omega), Xad]
 refine ⟨_, rfl, Xzh hw hh ?_, rfl, rfl⟩
 simp only
 rw [strOfNums_size, List.length_replicate]; omega
def Xnk (n : Int) : Bool := decide (n.tmod 8 = 0) && decide (8 ≤ n ∧ n ≤ 64)
theorem Xe7 (n : Int) : Xim n = some (Xnk n) := by
 unfold Xim Xnk
 rw [rqA, Xai, Xad, Xgt, Xad, Ye7]
theorem Yb1 (src ref : Pic) (c : Cond) (r : Int) : ∃ l p b, Xc8 src ref c r = some (l, p, b) ∧ l.length ≤ 64 ∧ (∀ s ∈ l, Xrj s = true) := by
 have hm : maxLen = 9223372036854775807 := rfl
 unfold Xc8
 rw [Xcn, Xad, Xe7, Xad, Xe7, Xad, Xbp, Xad, Xai, Xad, Xg3, Xad, Ypi]
 simp only [Yjx, Xad]
 cases hchk : (!Xb1 src || (!Xnk src.Wide || (!Xnk src.High || (!Xin c || (!decide (0 ≤ r ∧ r ≤ 4) || (!c.Key && !Yf1 src ref)))))) with
 | true => exact ⟨_, _, _, rfl, by simp, fun s hs => by simp at hs⟩
 | false =>
  simp only [Bool.or_eq_false_iff, Bool.not_eq_false', decide_eq_true_eq] at hchk
  obtain ⟨ok, sw, sh, hc, hr, hlike⟩ := hchk
  have hk : c.Key = false → Yf1 src ref = true := by
   intro hK
   rw [hK] at hlike
   simpa using hlike
  obtain ⟨k1, k2, k3⟩ := Xa5 ok
  unfold Xnk at sw sh
  rw [Bool.and_eq_true, decide_eq_true_eq, decide_eq_true_eq, Xc7 (by omega)] at sw sh
  obtain ⟨g, eg, g1, g2, g3⟩ := Yip src.Wide src.High k1 k2
  rw [Xay, eg, Xad]
  obtain ⟨o, e, o1, o2⟩ := Xod (f := Xb9 src ref c r)
   (fun v => 0 ≤ v.1 ∧ v.1 ≤ src.High ∧ v.1 % 8 = 0 ∧ (v.2.1.length : Int) ≤ v.1 ∧ (∀ s ∈ v.2.1, Xrj s = true) ∧ Xb1 ⟨v.2.2.1, v.2.2.2.1, v.2.2.2.2⟩ = true ∧ v.2.2.1 = src.Wide ∧ v.2.2.2.1 = src.High) (fun v => (src.High - v.1).toNat) (fun _ o => (o.1.length : Int) ≤ 64 ∧ ∀ s ∈ o.1, Xrj s = true) (by
   intro ⟨y, sq, w, h, dt⟩ ⟨f1, f2, f3, f4, f5, f6, f7, f8⟩
   simp only at f1 f2 f3 f4 f5 f6 f7 f8
   unfold Xb9
   simp only
   by_cases hy : y < src.High
   ·
    rw [Xbu hy]
    obtain ⟨o, e, o1, o2, o3, o4, o5⟩ := Xod (f := Xca src ref c r (y, sq, w, h, dt))
     (fun v => 0 ≤ v.1 ∧ v.1 ≤ src.Wide ∧ v.1 % 8 = 0 ∧ 8 * ((v.2.1.length : Int) - sq.length) ≤ v.1 ∧ (∀ s ∈ v.2.1, Xrj s = true) ∧ Xb1 ⟨v.2.2.1, v.2.2.2.1, v.2.2.2.2⟩ = true ∧ v.2.2.1 = src.Wide ∧ v.2.2.2.1 = src.High) (fun v => (src.Wide - v.1).toNat)
     (fun _ o => (o.1.length : Int) ≤ y + 8 ∧ (∀ s ∈ o.1, Xrj s = true) ∧ Xb1 ⟨o.2.1, o.2.2.1, o.2.2.2⟩ = true ∧ o.2.1 = src.Wide ∧ o.2.2.1 = src.High) (by
     intro ⟨x, sq2, w2, h2, dt2⟩ ⟨e1, e2, e3, e4, e5, e6, e7, e8⟩
     simp only at e1 e2 e3 e4 e5 e6 e7 e8
     unfold Xca
     simp only
     by_cases hx : x < src.Wide
     ·
      have held : Xbj (⟨w2, h2, dt2⟩ : Pic) x y = true := by unfold Xbj; rw [decide_eq_true_eq]; simp only; omega
      obtain ⟨q, d, eq, q1, q2, _⟩ := Xwd (now := (⟨w2, h2, dt2⟩ : Pic)) (ref := ref) (w := Xmg src x y 64) (r := r) (c := c) e6 (by rw [Xc7 e1]; exact e3) (by rw [Xc7 f1]; exact f3) held (Xdh _ _ _) hc hr (fun hK => by
       obtain ⟨a1, a2, a3⟩ := Ya2 (hk hK)
       exact ⟨a1, by simp only; omega, by simp only; omega⟩)
      obtain ⟨p', ep, p1, p2, p3⟩ := Xm1 e6 held q2
      rw [Xbu hx, Xbo ok x y (by omega) (by omega), Xad, eq, Xad]
      simp only
      rw [Xbn (by simp only [List.length_singleton]; omega), ep, Xad, wkA (e := x + 8)]
      refine .inr ⟨_, rfl, ⟨by simp only; omega, by simp only; omega, by simp only; omega, by simp only [List.length_append, List.length_singleton]; omega, ?_, p1, ?_, ?_⟩, by simp only; omega, fun _ h => h⟩
      ·
       intro s hs
       rcases List.mem_append.1 hs with hs | hs
       ·
        exact e5 s hs
       ·
        rw [List.mem_singleton.1 hs]; exact q1
      ·
       simp only at p2 ⊢; rw [p2]; exact e7
      ·
       simp only at p3 ⊢; rw [p3]; exact e8
     ·
      rw [Xav hx]
      exact .inl ⟨_, rfl, by simp only; omega, e5, e6, e7, e8⟩) (0, sq, w, h, dt) ⟨by simp, by simp only; omega, by simp, by simp, f5, f6, f7, f8⟩
    rw [e, Xad, wkA (e := y + 8)]
    exact .inr ⟨_, rfl, ⟨by simp only; omega, by simp only; omega, by simp only; omega, o1, o2, o3, o4, o5⟩, by simp only; omega, fun _ h => h⟩
   ·
    rw [Xav hy]
    exact .inl ⟨_, rfl, by simp only; omega, f5⟩) (0, [], g.Wide, g.High, g.Dots) ⟨by simp, by simp only; omega, by simp, by simp, fun s hs => by simp at hs, g1, g2, g3⟩
  rw [e, Xad]
  exact ⟨_, _, _, rfl, by omega, o2⟩
theorem Yfv {V O : Type} {f g : V → Option (Lp V O)} (I : V → Prop) (h : ∀ v, I v → f v = g v) (hI : ∀ v v', I v → g v = some (.go v') → I v') : ∀ (k : Nat) (v : V), I v → it f k v = it g k v
 | 0, _, _ => rfl
 | k + 1, v, hv => by
  rw [it, it, h v hv]
  cases e : g v with
  | none => rfl
  | some s =>
   cases s with
   | go y => exact Yfv I h hI k y (hI v y hv e)
   | done o => rfl
theorem Xj2 {V O : Type} {f g : V → Option (Lp V O)} (I : V → Prop) (h : ∀ v, I v → f v = g v) (hI : ∀ v v', I v → g v = some (.go v') → I v') {v : V} (hv : I v) : loop f v = loop g v := by
 apply Option.ext
 intro o
 rw [Xhi, Xhi]
 exact ⟨fun ⟨k, hk⟩ => ⟨k, by rw [← Yfv I h hI k v hv]; exact hk⟩, fun ⟨k, hk⟩ => ⟨k, by rw [Yfv I h hI k v hv]; exact hk⟩⟩
theorem Yjo {V O : Type} {f : V → Option (Lp V O)} {v : V} {o : O} (k : Nat) (h : it f k v = some o) : loop f v = some o := Xhi.2 ⟨k, h⟩
theorem Xvw {a b : List Int} {n : Nat} (ha : a.length = n) (hb : b.length = n) (h : ∀ i : Nat, i < n → a.getD i 0 = b.getD i 0) : a = b := by
 apply List.ext_getElem (by omega)
 intro i h1 h2
 have := h i (by omega)
 rwa [Xff a i h1, Xff b i h2] at this
theorem Xhw {n : Nat} (g : Nat → Int) {i : Nat} (h : i < n) : ((List.range n).map g).getD i 0 = g i := by
 rw [Xff _ i (by simpa using h)]; simp
theorem You {α : Type} {f : Int × List α → Option (Lp (Int × List α) (List α))} (n : Nat) (g : Nat → α) (a : List α) (hs : ∀ i : Nat, i < n → f ((i : Int), a ++ (List.range i).map g) = some (.go (((i + 1 : Nat) : Int), a ++ (List.range i).map g ++ [g i]))) (he : f ((n : Int), a ++ (List.range n).map g) = some (.done (a ++ (List.range n).map g))) : loop f (0, a) = some (a ++ (List.range n).map g) := by
 have key : ∀ i : Nat, i ≤ n → loop f ((i : Int), a ++ (List.range i).map g) = some (a ++ (List.range n).map g) := by
  refine Xio _ (Xj0 he) ?_
  intro i hi ih
  refine lgo (hs i hi) ?_
  rw [List.append_assoc, show (List.range i).map g ++ [g i] = (List.range (i + 1)).map g by simp [List.range_succ]]
  exact ih
 have := key 0 (by omega)
 simpa using this
theorem Xkl {S : Type} {f : Int × S → Option (Lp (Int × S) S)} (n : Nat) (I : Nat → S → Prop) (hs : ∀ (i : Nat) (l : S), i < n → I i l → ∃ l', f ((i : Int), l) = some (.go (((i + 1 : Nat) : Int), l')) ∧ I (i + 1) l') (he : ∀ l, I n l → f ((n : Int), l) = some (.done l)) (l0 : S) (h0 : I 0 l0) : ∃ o, loop f (0, l0) = some o ∧ I n o := by
 have key : ∀ i : Nat, i ≤ n → ∀ l, I i l → ∃ o, loop f ((i : Int), l) = some o ∧ I n o := by
  refine Xio _ ?_ ?_
  ·
   intro l h; exact ⟨l, Xj0 (he l h), h⟩
  ·
   intro i hi ih l h
   obtain ⟨l', e, h'⟩ := hs i l hi h
   obtain ⟨o, e2, h2⟩ := ih l' h'
   exact ⟨o, lgo e e2, h2⟩
 exact key 0 (by omega) l0 h0
theorem Yl0 {f : Int × List Int → Option (Lp (Int × List Int) (List Int))} (n : Nat) (g : Nat → Int) (l : List Int) (hl : l.length = n) (hs : ∀ (i : Nat) (s : List Int), i < n → s.length = n → s.getD i 0 = l.getD i 0 → f ((i : Int), s) = some (.go (((i + 1 : Nat) : Int), s.set i (g i)))) (he : ∀ s : List Int, s.length = n → f ((n : Int), s) = some (.done s)) : loop f (0, l) = some ((List.range n).map g) := by
 obtain ⟨o, e, h1, h2, _⟩ := Xkl (f := f) n (fun i s => s.length = n ∧ (∀ j, j < i → s.getD j 0 = g j) ∧ ∀ j, i ≤ j → s.getD j 0 = l.getD j 0) (by
  intro i s hi ⟨g1, g2, g3⟩
  refine ⟨_, hs i s hi g1 (g3 i (Nat.le_refl _)), by rw [List.length_set]; exact g1, fun j hj => ?_, fun j hj => ?_⟩
  ·
   rw [Xeg s i j _ (by omega)]
   by_cases h : i = j
   ·
    rw [if_pos h, h]
   ·
    rw [if_neg h]; exact g2 j (by omega)
  ·
   rw [Xeg s i j _ (by omega), if_neg (by omega)]; exact g3 j (by omega)) (fun s hs => he s hs.1) l ⟨hl, fun j hj => by omega, fun _ _ => rfl⟩
 rw [e]
 congr 1
 exact Xvw h1 (by simp) fun i hi => by rw [h2 i hi, Xhw g hi]
theorem Yjb : Xli = Xcc := rfl
theorem Yds (qp : Int) (h0 : 0 ≤ qp ∧ qp ≤ 40) : Xfr qp = some (Xmc qp) := by
 have h := Yn5 ⟨qp.toNat, by omega⟩
 simp only at h
 rw [show ((qp.toNat : Nat) : Int) = qp by omega] at h
 unfold Xfr
 rw [Xai, Xad, decide_eq_true (by omega), Bool.not_true, Xay, rqA]
 have hb : (sel ((qp.tmod 6) == 0) (some (10 : Int)) (sel ((qp.tmod 6) == 1) (some 11) (sel ((qp.tmod 6) == 2) (some 13) (sel ((qp.tmod 6) == 3) (some 14) (sel ((qp.tmod 6) == 4) (some 16) (some 18)))))) = some (Xoj qp) := by
  unfold Xoj
  simp only [Ygf, beq_iff_eq]
  repeat' split
  all_goals rfl
 rw [hb, Xad]
 unfold Xmc at h ⊢
 cases e : it (Xhv qp) 10 (Xoj qp, 0) with
 | none => rw [e] at h; simp only at h; omega
 | some q => rw [Xhi.2 ⟨10, e⟩, Xad]
theorem Yfs : ∀ q : Fin 41, Xh6 (q.val : Int) = some (Xmc (q.val : Int)) := by decide +kernel
theorem Ycw (qp : Int) (h0 : 0 ≤ qp ∧ qp ≤ 40) : Xh6 qp = some (Xmc qp) := by
 have := Yfs ⟨qp.toNat, by omega⟩
 simp only at this
 rwa [show ((qp.toNat : Nat) : Int) = qp by omega] at this
theorem Xws (qp : Int) (h0 : 0 ≤ qp ∧ qp ≤ 40) : Xh6 qp = Xfr qp := by rw [Ycw qp h0, Yds qp h0]
theorem Xrd (u v : Nat) (hu : u < 8) (hv : v < 8) : Xgz u v = some (Xi6 u v) := by
 have h := Yn1 ⟨u, hu⟩ ⟨v, hv⟩
 simp only at h
 unfold Xgz
 rw [Xai, Xad, decide_eq_true (by omega), Xaz, Xai, Xad, decide_eq_true (by omega), Bool.not_true, Xad, Xay]
 unfold Xi6 at h ⊢
 cases e : it Xhu 10 (1, (IntKind.wrap .i64 (BitVec.ofInt (IntKind.bits .i64) (u : Int) &&& BitVec.ofInt (IntKind.bits .i64) (v : Int)).toNat)) with
 | none => rw [e] at h; simp only at h; omega
 | some q => rw [Xhi.2 ⟨10, e⟩, Xad]
theorem Yfn : ∀ u v : Fin 8, Xjq (u.val : Int) (v.val : Int) = some (Xi6 (u.val : Int) (v.val : Int)) := by decide +kernel
theorem Xwr (u v : Nat) (hu : u < 8) (hv : v < 8) : Xjq u v = some (Xi6 u v) := Yfn ⟨u, hu⟩ ⟨v, hv⟩
def Yge (qp p : Int) : Option Int :=
 bnd (Xh8 p) fun q1 => bnd (Xa2 q1 10 16 13) fun a1 => bnd (Xa2 q1 11 18 14) fun a2 => bnd (Xa2 q1 13 20 16) fun a3 => bnd (Xa2 q1 14 23 18) fun a4 => bnd (Xa2 q1 16 25 20) fun a5 => bnd (Xa2 q1 18 29 23) fun a6 =>
 it (Xdr qp) 10 ((sel (qp.tmod 6 == 0) a1 (sel (qp.tmod 6 == 1) a2 (sel (qp.tmod 6 == 2) a3 (sel (qp.tmod 6 == 3) a4 (sel (qp.tmod 6 == 4) a5 (sel (qp.tmod 6 == 5) a6 0)))))), 0)
theorem Ynx : ∀ q : Fin 41, ∀ p : Fin 16, (Yge (q.val : Int) (p.val : Int)).isSome = true ∧ Xko (q.val : Int) (p.val : Int) = Yge (q.val : Int) (p.val : Int) := by decide +kernel
theorem Ye0 (qp p : Int) (h0 : 0 ≤ qp ∧ qp ≤ 40) (hp : 0 ≤ p ∧ p ≤ 15) : Xko qp p = Xgx qp p := by
 have := Ynx ⟨qp.toNat, by omega⟩ ⟨p.toNat, by omega⟩
 simp only at this
 rw [show ((qp.toNat : Nat) : Int) = qp by omega, show ((p.toNat : Nat) : Int) = p by omega] at this
 obtain ⟨h1, h2⟩ := this
 rw [h2]
 cases e : Yge qp p with
 | none => rw [e] at h1; cases h1
 | some o =>
  unfold Yge at e
  unfold Xgx
  obtain ⟨k, ek, k0, k1⟩ := Xm0 p hp
  rw [ek, Xad] at e ⊢
  rw [Xai, Xad, decide_eq_true h0, Xaz, decide_eq_false (by omega), Xad, Xay, rqA]
  obtain ⟨a1, e1, b1⟩ := Xa0 k 10 16 13
  obtain ⟨a2, e2, b2⟩ := Xa0 k 11 18 14
  obtain ⟨a3, e3, b3⟩ := Xa0 k 13 20 16
  obtain ⟨a4, e4, b4⟩ := Xa0 k 14 23 18
  obtain ⟨a5, e5, b5⟩ := Xa0 k 16 25 20
  obtain ⟨a6, e6, b6⟩ := Xa0 k 18 29 23
  rw [e1, e2, e3, e4, e5, e6] at e ⊢
  simp only [Xad, Yk6] at e ⊢
  rw [Yjo 10 e, Xad]
def Xnj (n : Int) (v16 : Int × List Int) : Option (Lp (Int × List Int) (List Int)) :=
 sel (decide (v16.1 ≤ (Xaa .i64 ((Xaa .i64 (2 * n)) - 2)))) (
 bnd (it (Xiy n v16) 20 (0, v16.2)) fun v42 =>
 some (.go (Xaa .i64 (v16.1 + 1), v42))) (
 some (.done v16.2))
theorem Yij {n : Int} {v : Int × List Int} {x : Lp (Int × List Int) (List Int)} (h : Xnj n v = some x) : Xgb n v = some x := by
 unfold Xnj at h
 unfold Xgb
 rcases Xh0 h with ⟨hb, h⟩ | ⟨hb, h⟩
 ·
  rw [hb, Xaz]
  obtain ⟨a, h1, h2⟩ := Xa3 h
  rw [Xhi.2 ⟨20, h1⟩, Xad]
  exact h2
 ·
  rw [hb, Xay]; exact h
def Ybe (n : Int) : List Int := (it (Xnj n) 20 (0, [])).getD []
theorem Yq3 : (it (Xnj 4) 20 (0, [])).isSome = true ∧ (Ybe 4).length = 16 := by decide +kernel
theorem Yq4 : (it (Xnj 8) 20 (0, [])).isSome = true ∧ (Ybe 8).length = 64 := by decide +kernel
theorem Yny : ∀ i : Fin 16, (Ybe 4).getD i.val 0 = Xfx 4 (i.val : Int) := by decide +kernel
theorem Ynz : ∀ i : Fin 64, (Ybe 8).getD i.val 0 = Xfx 8 (i.val : Int) := by decide +kernel
theorem Xna (n : Int) (hn : n = 4 ∨ n = 8) : Xf1 n = some (Ybe n) ∧ ((Ybe n).length : Int) = n * n ∧ ∀ i : Nat, (i : Int) < n * n → (Ybe n).getD i 0 = Xfx n i := by
 have h : (it (Xnj n) 20 (0, [])).isSome = true ∧ ((Ybe n).length : Int) = n * n := by
  rcases hn with rfl | rfl
  ·
   have := Yq3; exact ⟨this.1, by omega⟩
  ·
   have := Yq4; exact ⟨this.1, by omega⟩
 refine ⟨?_, h.2, fun i hi => ?_⟩
 ·
  obtain ⟨o, ho⟩ := Option.isSome_iff_exists.1 h.1
  have hl := Yjo 20 (Yo4 (fun v y => Yij (n := n)) 20 _ ho)
  unfold Xf1
  rw [hl, Xad]
  unfold Ybe; rw [ho]; rfl
 ·
  rcases hn with rfl | rfl
  ·
   exact Yny ⟨i, by omega⟩
  ·
   exact Ynz ⟨i, by omega⟩
theorem Xpc (n : Int) (hn : n = 4 ∨ n = 8) (l : List Int) (hl : (l.length : Int) = n * n) : Xei n l = Xcp n l := by
 obtain ⟨e, h1, h2⟩ := Xna n hn
 have hw : Xaa .i64 (n * n) = n * n := by rcases hn with rfl | rfl <;> exact wkA
 have hn2 : n * n ≤ 64 := by rcases hn with rfl | rfl <;> omega
 unfold Xei Xcp
 rw [e]
 have : loop (Xg7 l (Ybe n)) (0, List.replicate (l.length : Int).toNat 0) = loop (Xbw n l) (0, List.replicate (l.length : Int).toNat 0) := by
  refine Xj2 (fun v => (∃ i : Nat, v.1 = (i : Int) ∧ i ≤ l.length) ∧ v.2.length = l.length) ?_ ?_ ⟨⟨0, rfl, by omega⟩, by simp⟩
  ·
   intro ⟨i, s⟩ ⟨⟨k, ek, hk⟩, hs⟩
   simp only at hs ek
   subst ek
   unfold Xg7 Xbw
   simp only [Int.toNat_natCast]
   rw [hw]
   by_cases hi : (k : Int) < n * n
   ·
    have hp := Xgs n hn k hi
    have h3 := h2 k hi
    simp only [h3]
    rw [syA, Xbu hi, Xf3 n hn k hi, Xad, rqA, rqA]
   ·
    rw [snA, Xav hi]
  ·
   intro ⟨i, s⟩ v' ⟨⟨k, ek, hk⟩, hs⟩ he
   simp only at hs ek
   subst ek
   unfold Xbw at he
   simp only [Int.toNat_natCast] at he
   rw [hw] at he
   by_cases hi : (k : Int) < n * n
   ·
    have hp := Xgs n hn k hi
    rw [Xbu hi, Xf3 n hn k hi, Xad, rqA, rqA, rqA, wkA] at he
    cases he
    exact ⟨⟨k + 1, rfl, by omega⟩, by rw [List.length_set]; exact hs⟩
   ·
    rw [Xav hi] at he; cases he
 simp only [Xad, this]
theorem Xnx (n : Int) (hn : n = 4 ∨ n = 8) (l : List Int) (hl : (l.length : Int) = n * n) : Xgk n l = Xeb n l := by
 have hm : maxLen = 9223372036854775807 := rfl
 obtain ⟨e, h1, h2⟩ := Xna n hn
 have hw : Xaa .i64 (n * n) = n * n := by rcases hn with rfl | rfl <;> exact wkA
 have hn2 : n * n ≤ 64 := by rcases hn with rfl | rfl <;> omega
 unfold Xgk Xeb
 rw [e]
 have : loop (Xiu l (Ybe n)) (0, ([] : List Int)) = loop (Xcv n l) (0, ([] : List Int)) := by
  refine Xj2 (fun v => ∃ i : Nat, v.1 = (i : Int) ∧ i ≤ l.length) ?_ ?_ ⟨0, rfl, by omega⟩
  ·
   intro ⟨i, s⟩ ⟨k, ek, hk⟩
   simp only at ek
   subst ek
   unfold Xiu Xcv
   simp only [Int.toNat_natCast]
   rw [hw]
   by_cases hi : (k : Int) < n * n
   ·
    have hp := Xgs n hn k hi
    have h3 := h2 k hi
    simp only [h3]
    rw [syA, Xbu hi, Xf3 n hn k hi, Xad, rqA, rqA]
   ·
    rw [snA, Xav hi]
  ·
   intro ⟨i, s⟩ v' ⟨k, ek, hk⟩ he
   simp only at ek
   subst ek
   unfold Xcv at he
   simp only [Int.toNat_natCast] at he
   rw [hw] at he
   by_cases hi : (k : Int) < n * n
   ·
    have hp := Xgs n hn k hi
    rw [Xbu hi, Xf3 n hn k hi, Xad, rqA] at he
    obtain ⟨_, he⟩ := Xaw he
    rw [wkA] at he
    cases he
    exact ⟨k + 1, rfl, by omega⟩
   ·
    rw [Xav hi] at he; cases he
 simp only [Xad, this]
def Ygx (t : Nat → Int) : Nat → Int
 | 0 => 0
 | k + 1 => Xaa .i64 (Ygx t k + t k)
def Yq1 (p : List Int) (i v k : Nat) : Int := Xaa .i64 (Xi6 v k * p.getD (8 * i + k) 0)
def Yql (p : List Int) (u v k : Nat) : Int := Xaa .i64 (Xi6 u k * p.getD (8 * k + v) 0)
def Xpg (p : List Int) : List Int := (List.range 64).map fun j => Ygx (Yq1 p (j / 8) (j % 8)) 8
def Ymd (p : List Int) : List Int := (List.range 64).map fun j => Ygx (Yql (Xpg p) (j / 8) (j % 8)) 8
theorem Yhi (p : List Int) : (Xpg p).length = 64 := by simp [Xpg]
theorem Yn7 (p : List Int) : (Ymd p).length = 64 := by simp [Ymd]
theorem Yiv {f1 : Int × List Int → Option (Lp (Int × List Int) (List Int))} {f2 : Int × List Int → Int × List Int → Option (Lp (Int × List Int) (List Int))} {f3 : Int × List Int → Int × List Int → Int × List Int → Option (Lp (Int × List Int) (List Int))} (t : Nat → Nat → Nat → Int)
  (h1 : ∀ v, f1 v = sel (decide (v.1 < 8)) (bnd (loop (f2 v) (0, v.2)) fun w => some (.go (Xaa .i64 (v.1 + 1), w))) (some (.done v.2)))
  (h2 : ∀ v w, f2 v w = sel (decide (w.1 < 8)) (bnd (loop (f3 v w) (0, w.2)) fun x => some (.go (Xaa .i64 (w.1 + 1), x))) (some (.done w.2)))
  (h3 : ∀ (i v k : Nat) (a b s : List Int), i < 8 → v < 8 → k < 8 → s.length = 64 → f3 ((i : Int), a) ((v : Int), b) ((k : Int), s) = some (.go (((k + 1 : Nat) : Int), s.set (8 * i + v) (Xaa .i64 (s.getD (8 * i + v) 0 + t i v k)))))
  (h4 : ∀ (i v : Nat) (a b s : List Int), f3 ((i : Int), a) ((v : Int), b) (8, s) = some (.done s)) : loop f1 (0, List.replicate 64 0) = some ((List.range 64).map fun j => Ygx (t (j / 8) (j % 8)) 8) := by
 obtain ⟨o, e, o1, o2, _⟩ := Xkl (f := f1) 8 (fun i s => s.length = 64 ∧ (∀ j, j < 8 * i → s.getD j 0 = Ygx (t (j / 8) (j % 8)) 8) ∧ ∀ j, 8 * i ≤ j → s.getD j 0 = 0) (by
  intro i s hi ⟨g1, g2, g3⟩
  obtain ⟨r, er, r1, r2, r3⟩ := Xkl (f := f2 ((i : Int), s)) 8 (fun v s => s.length = 64 ∧ (∀ j, j < 8 * i + v → s.getD j 0 = Ygx (t (j / 8) (j % 8)) 8) ∧ ∀ j, 8 * i + v ≤ j → s.getD j 0 = 0) (by
   intro v s' hv ⟨k1, k2, k3⟩
   obtain ⟨q, eq, q1, q2, q3⟩ := Xkl (f := f3 ((i : Int), s) ((v : Int), s')) 8 (fun k s => s.length = 64 ∧ (∀ j, j ≠ 8 * i + v → s.getD j 0 = s'.getD j 0) ∧ s.getD (8 * i + v) 0 = Ygx (t i v) k) (by
    intro k s'' hk ⟨m1, m2, m3⟩
    refine ⟨_, h3 i v k s s' s'' hi hv hk m1, by rw [List.length_set]; exact m1, fun j hj => ?_, ?_⟩
    ·
     rw [Xeg _ _ _ _ (by omega), if_neg (fun h => hj h.symm)]; exact m2 j hj
    ·
     rw [Xeg _ _ _ _ (by omega), if_pos rfl, m3]; rfl) (fun z _ => h4 i v s s' z) s' ⟨k1, fun _ _ => rfl, by rw [k3 _ (Nat.le_refl _)]; rfl⟩
   refine ⟨q, by rw [h2, Xbu (by simp only; omega), eq, Xad, wk (by simp only; omega) (by simp only; omega)]; rfl, q1, fun j hj => ?_, fun j hj => ?_⟩
   ·
    by_cases h : j = 8 * i + v
    ·
     rw [h, q3, show (8 * i + v) / 8 = i by omega, show (8 * i + v) % 8 = v by omega]
    ·
     rw [q2 j h]; exact k2 j (by omega)
   ·
    rw [q2 j (by omega)]; exact k3 j (by omega)) (fun z _ => by rw [h2, Xav (by simp)]) s ⟨g1, g2, g3⟩
  refine ⟨r, by rw [h1, Xbu (by simp only; omega), er, Xad, wk (by simp only; omega) (by simp only; omega)]; rfl, r1, fun j hj => r2 j (by omega), fun j hj => r3 j (by omega)⟩) (fun z _ => by rw [h1, Xav (by simp)]) (List.replicate 64 0) ⟨by simp, fun j hj => by omega, fun j _ => by
   by_cases h : j < 64
   ·
    rw [Xff _ _ (by rw [List.length_replicate]; exact h)]; exact List.getElem_replicate ..
   ·
    rw [List.getD_eq_getElem?_getD, List.getElem?_eq_none (by rw [List.length_replicate]; omega)]; rfl⟩
 rw [e]
 congr 1
 exact Xvw o1 (by simp) fun j hj => by rw [o2 j (by omega), Xhw (fun j => Ygx (t (j / 8) (j % 8)) 8) hj]
theorem Xww (p : List Int) (hp : p.length = 64) : Xnc p = some (Ymd p) := by
 unfold Xnc
 rw [rqA]
 have e1 : loop (Xn9 p) (0, List.replicate (64 : Int).toNat 0) = some (Xpg p) :=
  Yiv (f2 := Xoa p) (f3 := Xi0 p) (fun i v k => Yq1 p i v k) (fun _ => rfl) (fun _ _ => rfl) (fun i v k a b s hi hv hk hs => by
   unfold Xi0
   simp only
   rw [syA, wkA (e := 8 * (i : Int)), wkA (e := 8 * (i : Int) + (v : Int)), wkA (e := 8 * (i : Int) + (k : Int)), rqA, rqA, Xwr v k hv hk, Xad, rqA, rqA, rqA, wkA (e := (k : Int) + 1), show (8 * (i : Int) + (v : Int)).toNat = 8 * i + v by omega, show (8 * (i : Int) + (k : Int)).toNat = 8 * i + k by omega]
   rfl) (fun i v a b s => by unfold Xi0; rw [Xav (by simp)])
 have e2 : loop (Xmt (Xpg p)) (0, List.replicate (64 : Int).toNat 0) = some (Ymd p) :=
  Yiv (f2 := Xmu (Xpg p)) (f3 := Xhr (Xpg p)) (fun i v k => Yql (Xpg p) i v k) (fun _ => rfl) (fun _ _ => rfl) (fun i v k a b s hi hv hk hs => by
   have hl := Yhi p
   unfold Xhr
   simp only
   rw [syA, wkA (e := 8 * (i : Int)), wkA (e := 8 * (i : Int) + (v : Int)), wkA (e := 8 * (k : Int)), wkA (e := 8 * (k : Int) + (v : Int)), rqA, rqA, Xwr i k hi hk, Xad, rqA, rqA, rqA, rqA, wkA (e := (k : Int) + 1), show (8 * (i : Int) + (v : Int)).toNat = 8 * i + v by omega, show (8 * (k : Int) + (v : Int)).toNat = 8 * k + v by omega]
   rfl) (fun i v a b s => by unfold Xhr; rw [Xav (by simp)])
 rw [e1, Xad, rqA, e2, Xad]
theorem Yd5 (p : List Int) (hp : p.length = 64) (i v : Nat) (hi : i < 8) (hv : v < 8) : Xh9 p i v = some (Ygx (Yq1 p i v) 8) := by
 obtain ⟨o, e, h⟩ := Xmf (f := Xdb p i v) 8 (fun k s => s = Ygx (Yq1 p i v) k) (by
  intro k s hk g
  subst g
  unfold Xdb
  simp only
  rw [syA, wkA (e := 8 * (i : Int)), wkA (e := 8 * (i : Int) + (k : Int)), rqA, Xrd v k hv hk, Xad, wkA (e := (k : Int) + 1), show (8 * (i : Int) + (k : Int)).toNat = 8 * i + k by omega, Int.mul_comm (p.getD _ _)]
  exact ⟨_, rfl, rfl⟩) (by intro s; unfold Xdb; rw [Xav (by simp)]) 0 rfl
 unfold Xh9
 rw [e, Xad, h]
theorem Xp8 (p : List Int) (hp : p.length = 64) : Xfc p = some (Ymd p) := by
 have hm : maxLen = 9223372036854775807 := rfl
 unfold Xfc
 obtain ⟨o, e, ho⟩ := Xc1 (f := Xcd p) 8 (fun i s => s = (List.range (8 * i)).map fun j => Ygx (Yq1 p (j / 8) (j % 8)) 8) (by
  intro i s hi g
  subst g
  obtain ⟨r, er, hr⟩ := Xc1 (f := Xce p ((i : Int), (List.range (8 * i)).map fun j => Ygx (Yq1 p (j / 8) (j % 8)) 8)) 8 (fun v s => s = (List.range (8 * i + v)).map fun j => Ygx (Yq1 p (j / 8) (j % 8)) 8) (by
   intro v s hv g
   subst g
   unfold Xce
   simp only
   rw [syA, Yd5 p hp i v hi hv, Xad, Xbn (by simp only [List.length_singleton, List.length_map, List.length_range]; omega), wkA (e := (v : Int) + 1)]
   refine ⟨_, rfl, ?_⟩
   rw [show 8 * i + (v + 1) = (8 * i + v) + 1 by omega, List.range_succ, List.map_append, List.map_singleton, show (8 * i + v) / 8 = i by omega, show (8 * i + v) % 8 = v by omega]) (by intro s; unfold Xce; rw [Xav (by simp)]) _ rfl
  rw [Nat.add_zero] at er
  unfold Xcd
  simp only
  rw [syA, er, Xad, wkA (e := (i : Int) + 1)]
  exact ⟨_, rfl, by rw [hr, show 8 * (i + 1) = 8 * i + 8 by omega]⟩) (by intro s; unfold Xcd; rw [Xav (by simp)]) [] rfl
 have ho' : o = Xpg p := by rw [ho]; rfl
 rw [e, Xad, ho']
 obtain ⟨o2, e2, ho2⟩ := Xc1 (f := Xbx (Xpg p)) 8 (fun i s => s = (List.range (8 * i)).map fun j => Ygx (Yql (Xpg p) (j / 8) (j % 8)) 8) (by
  intro i s hi g
  subst g
  obtain ⟨r, er, hr⟩ := Xc1 (f := Xby (Xpg p) ((i : Int), (List.range (8 * i)).map fun j => Ygx (Yql (Xpg p) (j / 8) (j % 8)) 8)) 8 (fun v s => s = (List.range (8 * i + v)).map fun j => Ygx (Yql (Xpg p) (j / 8) (j % 8)) 8) (by
   intro v s hv g
   obtain ⟨c, ec, hc⟩ := Xmf (f := Xbz (Xpg p) ((i : Int), (List.range (8 * i)).map fun j => Ygx (Yql (Xpg p) (j / 8) (j % 8)) 8) ((v : Int), s)) 8 (fun k x => x = Ygx (Yql (Xpg p) i v) k) (by
    intro k x hk g
    subst g
    have hl := Yhi p
    unfold Xbz
    simp only
    rw [syA, Xrd i k hi hk, Xad, wkA (e := 8 * (k : Int)), wkA (e := 8 * (k : Int) + (v : Int)), rqA, rqA, wkA (e := (k : Int) + 1), show (8 * (k : Int) + (v : Int)).toNat = 8 * k + v by omega]
    exact ⟨_, rfl, rfl⟩) (by intro s; unfold Xbz; rw [Xav (by simp)]) 0 rfl
   subst g
   unfold Xby
   simp only
   rw [syA, ec, Xad, Xbn (by simp only [List.length_singleton, List.length_map, List.length_range]; omega), wkA (e := (v : Int) + 1)]
   refine ⟨_, rfl, ?_⟩
   rw [hc, show 8 * i + (v + 1) = (8 * i + v) + 1 by omega, List.range_succ, List.map_append, List.map_singleton, show (8 * i + v) / 8 = i by omega, show (8 * i + v) % 8 = v by omega]) (by intro s; unfold Xby; rw [Xav (by simp)]) _ rfl
  rw [Nat.add_zero] at er
  unfold Xbx
  simp only
  rw [syA, er, Xad, wkA (e := (i : Int) + 1)]
  exact ⟨_, rfl, by rw [hr, show 8 * (i + 1) = 8 * i + 8 by omega]⟩) (by intro s; unfold Xbx; rw [Xav (by simp)]) [] rfl
 rw [e2, Xad, ho2]
 rfl
theorem Xm3 (l : List Int) (n B : Int) (hn : (l.length : Int) = n) (hn2 : n ≤ 1000000) (h : inB B l) : Xba l n (-B) B = some true := by
 rw [Xiw l n (-B) B (by omega), hn, beq_self_eq_true, Bool.and_true]
 congr 1
 rw [List.all_eq_true]
 intro x hx
 rw [decide_eq_true_eq]; exact h x hx
theorem Xt6 (o : List Int) {f : Int × List Int → Option (Lp (Int × List Int) (List Int))} (n : Nat) (hn : n ≤ 64) (hl : o.length = n) (hf : ∀ v : Int × List Int, f v = sel (decide (v.1 < (n : Int))) (req (0 ≤ v.1 ∧ v.1 < v.2.length) <| req (v.1.toNat < v.2.length) <| bnd (Xcc (Xaa .i64 ((v.2.getD v.1.toNat 0) + 32)) 64) fun q => req (0 ≤ v.1 ∧ v.1 < v.2.length) <| req (v.1.toNat < v.2.length) <| some (.go (Xaa .i64 (v.1 + 1), (v.2.set v.1.toNat q)))) (some (.done v.2))) : bnd (Xig o) (fun q => some q.2) = bnd (loop f (0, o)) fun q => some q := by
 unfold Xig
 have : Xls o = f := by
  funext v
  rw [hf, ← hl]; rfl
 rw [this]
 cases loop f (0, o) <;> rfl
theorem Xzp (p : List Int) (hl : p.length = 64) (hb : inB 10000000 p) : Xhn p = Xel p := by
 unfold Xhn Xel
 rw [Xm3 p 64 10000000 (by omega) (by omega) hb, Xb8 p 64 10000000 (by omega) (by omega) (by omega) hb, Xad, Xad, Bool.not_true, Xay, Xay, Xww p hl, Xp8 p hl, Xad, Xad]
 exact Xt6 (Ymd p) 64 (by omega) (Yn7 p) (fun _ => rfl)
theorem Yix (p : List Int) (hl : p.length = 64) (hb : inB 1000 p) : Xm6 p = Xj4 p := by
 unfold Xm6 Xj4
 rw [Xm3 p 64 1000 (by omega) (by omega) hb, Xb8 p 64 1000 (by omega) (by omega) (by omega) hb, Xad, Xad, Bool.not_true, Xay, Xay, Xww p hl, Xp8 p hl, Xad]
def tgA (q : Int → Int → Int → Int → Option (Int × Int × Int × Int)) (v4 : (Int × (List Int))) : Option (Lp (Int × (List Int)) (List Int)) :=
 sel (decide (v4.1 < 16)) (
 req (0 ≤ v4.1 ∧ v4.1 < v4.2.length) <|
 req (v4.1.toNat < v4.2.length) <|
 req (0 ≤ (Xaa .i64 (v4.1 + 1)) ∧ (Xaa .i64 (v4.1 + 1)) < v4.2.length) <|
 req ((Xaa .i64 (v4.1 + 1)).toNat < v4.2.length) <|
 req (0 ≤ (Xaa .i64 (v4.1 + 2)) ∧ (Xaa .i64 (v4.1 + 2)) < v4.2.length) <|
 req ((Xaa .i64 (v4.1 + 2)).toNat < v4.2.length) <|
 req (0 ≤ (Xaa .i64 (v4.1 + 3)) ∧ (Xaa .i64 (v4.1 + 3)) < v4.2.length) <|
 req ((Xaa .i64 (v4.1 + 3)).toNat < v4.2.length) <|
 bnd (q (v4.2.getD v4.1.toNat 0) (v4.2.getD ((Xaa .i64 (v4.1 + 1)).toNat) 0) (v4.2.getD ((Xaa .i64 (v4.1 + 2)).toNat) 0) (v4.2.getD ((Xaa .i64 (v4.1 + 3)).toNat) 0)) fun q8 =>
 req (0 ≤ v4.1 ∧ v4.1 ≤ (Xaa .i64 (v4.1 + 4)) ∧ (Xaa .i64 (v4.1 + 4)) ≤ (v4.2.length : Int)) <|
 req ((v4.1.toNat + ((Xaa .i64 (v4.1 + 4)).toNat - v4.1.toNat) ≤ v4.2.length ∧ ([q8.1, q8.2.1, q8.2.2.1, q8.2.2.2]).length ≤ ((Xaa .i64 (v4.1 + 4)).toNat - v4.1.toNat))) <|
 some (.go (Xaa .i64 (v4.1 + 4), (over v4.2 v4.1.toNat ([q8.1, q8.2.1, q8.2.2.1, q8.2.2.2]))))) (
 some (.done v4.2))
def tgB (v17 : (Int × (List Int))) (q26 : (Int × Int × Int × Int)) (v28 : (Int × (List Int))) : Option (Lp (Int × (List Int)) (List Int)) :=
 sel (decide (v28.1 < 4)) (
 req (0 ≤ v28.1 ∧ v28.1 < ([q26.1, q26.2.1, q26.2.2.1, q26.2.2.2] : List Int).length) <|
 req (0 ≤ (Xaa .i64 (v17.1 + (Xaa .i64 (4 * v28.1)))) ∧ (Xaa .i64 (v17.1 + (Xaa .i64 (4 * v28.1)))) < v28.2.length) <|
 req ((Xaa .i64 (v17.1 + (Xaa .i64 (4 * v28.1)))).toNat < v28.2.length) <|
 some (.go (Xaa .i64 (v28.1 + 1), (v28.2.set ((Xaa .i64 (v17.1 + (Xaa .i64 (4 * v28.1)))).toNat) (([q26.1, q26.2.1, q26.2.2.1, q26.2.2.2] : List Int).getD v28.1.toNat 0))))) (
 some (.done v28.2))
noncomputable def tgC (q : Int → Int → Int → Int → Option (Int × Int × Int × Int)) (v17 : (Int × (List Int))) : Option (Lp (Int × (List Int)) (List Int)) :=
 sel (decide (v17.1 < 4)) (
 req (0 ≤ v17.1 ∧ v17.1 < v17.2.length) <|
 req (v17.1.toNat < v17.2.length) <|
 req (0 ≤ (Xaa .i64 (v17.1 + 4)) ∧ (Xaa .i64 (v17.1 + 4)) < v17.2.length) <|
 req ((Xaa .i64 (v17.1 + 4)).toNat < v17.2.length) <|
 req (0 ≤ (Xaa .i64 (v17.1 + 8)) ∧ (Xaa .i64 (v17.1 + 8)) < v17.2.length) <|
 req ((Xaa .i64 (v17.1 + 8)).toNat < v17.2.length) <|
 req (0 ≤ (Xaa .i64 (v17.1 + 12)) ∧ (Xaa .i64 (v17.1 + 12)) < v17.2.length) <|
 req ((Xaa .i64 (v17.1 + 12)).toNat < v17.2.length) <|
 bnd (q (v17.2.getD v17.1.toNat 0) (v17.2.getD ((Xaa .i64 (v17.1 + 4)).toNat) 0) (v17.2.getD ((Xaa .i64 (v17.1 + 8)).toNat) 0) (v17.2.getD ((Xaa .i64 (v17.1 + 12)).toNat) 0)) fun q26 =>
 bnd (loop (tgB v17 q26) (0, v17.2)) fun v30 =>
 some (.go (Xaa .i64 (v17.1 + 1), v30))) (
 some (.done v17.2))
noncomputable def Ypq (q : Int → Int → Int → Int → Option (Int × Int × Int × Int)) (p0 : (List Int)) : Option (List Int) :=
 bnd (Xg8 p0) fun q1 =>
 bnd (loop (tgA q) (0, q1)) fun v7 =>
 bnd (loop (tgC q) (0, v7)) fun v25 =>
 some v25
theorem Yn9 : Xb4 = Ypq Xdi := rfl
theorem Yoa : Xc3 = Ypq Xjm := rfl
abbrev Q4 := Int × Int × Int × Int
def Yh9 (q : Q4) (i : Nat) : Int := [q.1, q.2.1, q.2.2.1, q.2.2.2].getD i 0
def Xqt (t : Int → Int → Int → Int → Q4) (p : List Int) : List Int := (List.range 16).map fun j => Yh9 (t (p.getD (4 * (j / 4)) 0) (p.getD (4 * (j / 4) + 1) 0) (p.getD (4 * (j / 4) + 2) 0) (p.getD (4 * (j / 4) + 3) 0)) (j % 4)
def Xsv (p : List Int) : List Int := (List.range 16).map fun j => p.getD (j % 4 * 4 + j / 4) 0
theorem Xni (t : Int → Int → Int → Int → Q4) (p : List Int) : (Xqt t p).length = 16 := by simp [Xqt]
theorem Xpf (p : List Int) : (Xsv p).length = 16 := by simp [Xsv]
theorem Yh7 {l m : List Int} {i : Nat} (h : i + m.length ≤ l.length) (j : Nat) : (over l i m).getD j 0 = if i ≤ j ∧ j < i + m.length then m.getD (j - i) 0 else l.getD j 0 := by
 rw [List.getD_eq_getElem?_getD, Yky h]
 split <;> rw [List.getD_eq_getElem?_getD]
theorem Ylc {q : Int → Int → Int → Int → Option Q4} {t : Int → Int → Int → Int → Q4} (hq : ∀ a b c d, q a b c d = some (t a b c d)) (p : List Int) (hp : p.length = 16) : Ypq q p = some (Xsv (Xqt t (Xsv (Xqt t p)))) := by
 have hm : maxLen = 9223372036854775807 := rfl
 unfold Ypq Xg8
 rw [Xbn (by simp only [List.length_nil]; omega), Xad, List.nil_append]
 have hA : loop (tgA q) (0, p) = some (Xqt t p) := by
  have key : ∀ r : Nat, r ≤ 4 → ∀ s : List Int, s.length = 16 → (∀ j, j < 4 * r → s.getD j 0 = (Xqt t p).getD j 0) → (∀ j, 4 * r ≤ j → s.getD j 0 = p.getD j 0) → loop (tgA q) (((4 * r : Nat) : Int), s) = some (Xqt t p) := by
   refine Xio _ ?_ ?_
   ·
    intro s h1 h2 _
    refine Xj0 ?_
    unfold tgA
    rw [Xav (by simp), Xvw h1 (Xni t p) h2]
   ·
    intro r hr ih s h1 h2 h3
    refine lgo (y := (((4 * (r + 1) : Nat) : Int), over s (4 * r) [Yh9 (t (p.getD (4 * r) 0) (p.getD (4 * r + 1) 0) (p.getD (4 * r + 2) 0) (p.getD (4 * r + 3) 0)) 0, Yh9 (t (p.getD (4 * r) 0) (p.getD (4 * r + 1) 0) (p.getD (4 * r + 2) 0) (p.getD (4 * r + 3) 0)) 1, Yh9 (t (p.getD (4 * r) 0) (p.getD (4 * r + 1) 0) (p.getD (4 * r + 2) 0) (p.getD (4 * r + 3) 0)) 2, Yh9 (t (p.getD (4 * r) 0) (p.getD (4 * r + 1) 0) (p.getD (4 * r + 2) 0) (p.getD (4 * r + 3) 0)) 3])) ?_ (ih _ ?_ ?_ ?_)
    ·
     unfold tgA
     simp only
     rw [syA, wkA (e := ((4 * r : Nat) : Int) + 1), wkA (e := ((4 * r : Nat) : Int) + 2), wkA (e := ((4 * r : Nat) : Int) + 3), wkA (e := ((4 * r : Nat) : Int) + 4)]
     rw [rqA, rqA, rqA, rqA, rqA, rqA, rqA, rqA, hq, Xad, rqA, Xbn (by simp only [List.length_cons, List.length_nil]; omega)]
     rw [show (((4 * r : Nat) : Int) + 1).toNat = 4 * r + 1 by omega, show (((4 * r : Nat) : Int) + 2).toNat = 4 * r + 2 by omega, show (((4 * r : Nat) : Int) + 3).toNat = 4 * r + 3 by omega, Int.toNat_natCast, h3 _ (by omega), h3 _ (by omega), h3 _ (by omega), h3 _ (by omega)]
     rfl
    ·
     rw [Ya6 (by simp only [List.length_cons, List.length_nil]; omega)]; exact h1
    ·
     intro j hj
     rw [Yh7 (by simp only [List.length_cons, List.length_nil]; omega)]
     simp only [List.length_cons, List.length_nil]
     by_cases h : 4 * r ≤ j
     ·
      rw [if_pos (by omega)]
      unfold Xqt
      rw [Xhw _ (by omega), show 4 * (j / 4) = 4 * r by omega]
      obtain h | h | h | h : j = 4 * r ∨ j = 4 * r + 1 ∨ j = 4 * r + 2 ∨ j = 4 * r + 3 := by omega
      ·
       rw [h, show 4 * r - 4 * r = 0 by omega, show (4 * r) % 4 = 0 by omega]; rfl
      ·
       rw [h, show 4 * r + 1 - 4 * r = 1 by omega, show (4 * r + 1) % 4 = 1 by omega]; rfl
      ·
       rw [h, show 4 * r + 2 - 4 * r = 2 by omega, show (4 * r + 2) % 4 = 2 by omega]; rfl
      ·
       rw [h, show 4 * r + 3 - 4 * r = 3 by omega, show (4 * r + 3) % 4 = 3 by omega]; rfl
     ·
      rw [if_neg (by omega)]; exact h2 j (by omega)
    ·
     intro j hj
     rw [Yh7 (by simp only [List.length_cons, List.length_nil]; omega), if_neg (by simp only [List.length_cons, List.length_nil]; omega)]
     exact h3 j (by omega)
  exact key 0 (by omega) p hp (fun j hj => by omega) fun _ _ => rfl
 rw [hA, Xad]
 generalize hR : Xqt t p = R
 have hl : R.length = 16 := by rw [← hR]; exact Xni t p
 have hC : loop (tgC q) (0, R) = some (Xsv (Xqt t (Xsv R))) := by
  have at4 : ∀ j : Nat, j < 16 → (Xsv (Xqt t (Xsv R))).getD j 0 = Yh9 (t (R.getD (j % 4) 0) (R.getD (j % 4 + 4) 0) (R.getD (j % 4 + 8) 0) (R.getD (j % 4 + 12) 0)) (j / 4) := by
   intro j hj
   rw [Xsv, Xhw _ hj, Xqt, Xhw _ (by omega), Xsv, Xhw _ (by omega), Xhw _ (by omega), Xhw _ (by omega), Xhw _ (by omega)]
   rw [show (j % 4 * 4 + j / 4) / 4 = j % 4 by omega, show (j % 4 * 4 + j / 4) % 4 = j / 4 by omega, show 4 * (j % 4) % 4 * 4 + 4 * (j % 4) / 4 = j % 4 by omega, show (4 * (j % 4) + 1) % 4 * 4 + (4 * (j % 4) + 1) / 4 = j % 4 + 4 by omega, show (4 * (j % 4) + 2) % 4 * 4 + (4 * (j % 4) + 2) / 4 = j % 4 + 8 by omega, show (4 * (j % 4) + 3) % 4 * 4 + (4 * (j % 4) + 3) / 4 = j % 4 + 12 by omega]
  obtain ⟨o, e, o1, o2, _⟩ := Xkl (f := tgC q) 4 (fun c s => s.length = 16 ∧ (∀ j, j < 16 → j % 4 < c → s.getD j 0 = (Xsv (Xqt t (Xsv R))).getD j 0) ∧ ∀ j, j < 16 → c ≤ j % 4 → s.getD j 0 = R.getD j 0) (by
   intro c s hc ⟨g1, g2, g3⟩
   obtain ⟨r, er, r1, r2, r3⟩ := Xkl (f := tgB ((c : Int), s) (t (R.getD c 0) (R.getD (c + 4) 0) (R.getD (c + 8) 0) (R.getD (c + 12) 0))) 4 (fun i s' => s'.length = 16 ∧ (∀ j, j < 16 → j % 4 ≠ c → s'.getD j 0 = s.getD j 0) ∧ ∀ j, j < 16 → j % 4 = c → j / 4 < i → s'.getD j 0 = Yh9 (t (R.getD c 0) (R.getD (c + 4) 0) (R.getD (c + 8) 0) (R.getD (c + 12) 0)) (j / 4)) (by
    intro i s' hi ⟨k1, k2, k3⟩
    unfold tgB
    simp only
    rw [syA, Xbn (by simp only [List.length_cons, List.length_nil]; omega), wkA (e := 4 * (i : Int)), wkA (e := (c : Int) + 4 * (i : Int)), rqA, rqA, wkA (e := (i : Int) + 1), show ((c : Int) + 4 * (i : Int)).toNat = c + 4 * i by omega, Int.toNat_natCast]
    refine ⟨_, rfl, by rw [List.length_set]; exact k1, fun j hj hjc => ?_, fun j hj hjc hji => ?_⟩
    ·
     rw [Xeg _ _ _ _ (by omega), if_neg (by omega)]; exact k2 j hj hjc
    ·
     rw [Xeg _ _ _ _ (by omega)]
     by_cases h : c + 4 * i = j
     ·
      rw [if_pos h, show j / 4 = i by omega]; rfl
     ·
      rw [if_neg h]; exact k3 j hj hjc (by omega)) (fun z _ => by unfold tgB; rw [Xav (by simp)]) s ⟨g1, fun _ _ _ => rfl, fun j hj hjc hji => by omega⟩
   unfold tgC
   simp only
   rw [syA, wkA (e := (c : Int) + 4), wkA (e := (c : Int) + 8), wkA (e := (c : Int) + 12), rqA, rqA, rqA, rqA, rqA, rqA, rqA, rqA, hq, Xad, show ((c : Int) + 4).toNat = c + 4 by omega, show ((c : Int) + 8).toNat = c + 8 by omega, show ((c : Int) + 12).toNat = c + 12 by omega, Int.toNat_natCast, g3 c (by omega) (by omega), g3 (c + 4) (by omega) (by omega), g3 (c + 8) (by omega) (by omega), g3 (c + 12) (by omega) (by omega), er, Xad, wkA (e := (c : Int) + 1)]
   refine ⟨r, rfl, r1, fun j hj hjc => ?_, fun j hj hjc => ?_⟩
   ·
    by_cases h : j % 4 = c
    ·
     rw [r3 j hj h (by omega), at4 j hj, h]
    ·
     rw [r2 j hj h]; exact g2 j hj (by omega)
   ·
    rw [r2 j hj (by omega)]; exact g3 j hj (by omega)) (fun z _ => by unfold tgC; rw [Xav (by simp)]) R ⟨hl, fun j hj hjc => by omega, fun _ _ _ => rfl⟩
  rw [e]
  congr 1
  exact Xvw o1 (Xpf _) fun j hj => o2 j hj (by omega)
 rw [hC, Xad]
theorem Xjg (p : List Int) (hl : p.length = 16) : Xda p = some (Xsv p) := by
 unfold Xda
 rw [rqA]
 obtain ⟨o, e, o1, o2⟩ := Xkl (f := Xcw p) 16 (fun i s => s.length = 16 ∧ ∀ j, j < 16 → j % 4 * 4 + j / 4 < i → s.getD j 0 = p.getD (j % 4 * 4 + j / 4) 0) (by
  intro i s hi ⟨g1, g2⟩
  unfold Xcw
  simp only
  rw [syA, rqA, rqA, rqA, Xc7 (by omega), Xcr (by omega), wkA (e := (i : Int) / 4), wkA (e := (i : Int) % 4 * 4), wkA (e := (i : Int) % 4 * 4 + (i : Int) / 4), rqA, rqA, wkA (e := (i : Int) + 1), Int.toNat_natCast, show ((i : Int) % 4 * 4 + (i : Int) / 4).toNat = i % 4 * 4 + i / 4 by omega]
  refine ⟨_, rfl, by rw [List.length_set]; exact g1, fun j hj hji => ?_⟩
  rw [Xeg _ _ _ _ (by omega)]
  by_cases h : i % 4 * 4 + i / 4 = j
  ·
   rw [if_pos h, show j % 4 * 4 + j / 4 = i by omega]
  ·
   rw [if_neg h]; exact g2 j hj (by omega)) (fun z _ => by unfold Xcw; rw [Xav (by simp)]) (List.replicate (16 : Int).toNat 0) ⟨by simp, fun j hj h => by omega⟩
 rw [e, Xad]
 congr 1
 exact Xvw o1 (Xpf p) fun j hj => by rw [o2 j hj (by omega), Xsv, Xhw _ hj]
theorem Yid {f : Int × List Int → Option (Lp (Int × List Int) (List Int))} {t : Int → Int → Int → Int → Q4} (p : List Int) (h : ∀ (i : Nat) (s : List Int), i < 4 → s.length = 4 * i → f ((i : Int), s) = some (.go (((i + 1 : Nat) : Int), s ++ [(t (p.getD (4 * i) 0) (p.getD (4 * i + 1) 0) (p.getD (4 * i + 2) 0) (p.getD (4 * i + 3) 0)).1, (t (p.getD (4 * i) 0) (p.getD (4 * i + 1) 0) (p.getD (4 * i + 2) 0) (p.getD (4 * i + 3) 0)).2.1, (t (p.getD (4 * i) 0) (p.getD (4 * i + 1) 0) (p.getD (4 * i + 2) 0) (p.getD (4 * i + 3) 0)).2.2.1, (t (p.getD (4 * i) 0) (p.getD (4 * i + 1) 0) (p.getD (4 * i + 2) 0) (p.getD (4 * i + 3) 0)).2.2.2]))) (he : ∀ s, f (4, s) = some (.done s)) : loop f (0, []) = some (Xqt t p) := by
 obtain ⟨o, e, ho⟩ := Xkl (f := f) 4 (fun i s => s = (List.range (4 * i)).map fun j => Yh9 (t (p.getD (4 * (j / 4)) 0) (p.getD (4 * (j / 4) + 1) 0) (p.getD (4 * (j / 4) + 2) 0) (p.getD (4 * (j / 4) + 3) 0)) (j % 4)) (by
  intro i s hi g
  refine ⟨_, h i s hi (by rw [g]; simp), ?_⟩
  rw [g, show 4 * (i + 1) = 4 * i + 1 + 1 + 1 + 1 by omega]
  simp only [List.range_succ, List.map_append, List.map_singleton, List.append_assoc]
  rw [show (4 * i + 1 + 1 + 1) / 4 = i by omega, show (4 * i + 1 + 1) / 4 = i by omega, show (4 * i + 1) / 4 = i by omega, show 4 * i / 4 = i by omega, show (4 * i + 1 + 1 + 1) % 4 = 3 by omega, show (4 * i + 1 + 1) % 4 = 2 by omega, show (4 * i + 1) % 4 = 1 by omega, show 4 * i % 4 = 0 by omega]
  rfl) (fun z _ => he z) [] rfl
 rw [e, ho]; rfl
def t4F (a b c d : Int) : Q4 := (Xaa .i64 ((Xaa .i64 ((Xaa .i64 (a + b)) + c)) + d), Xaa .i64 ((Xaa .i64 ((Xaa .i64 ((Xaa .i64 (2 * a)) + b)) - c)) - (Xaa .i64 (2 * d))), Xaa .i64 ((Xaa .i64 ((Xaa .i64 (a - b)) - c)) + d), Xaa .i64 ((Xaa .i64 ((Xaa .i64 (a - (Xaa .i64 (2 * b)))) + (Xaa .i64 (2 * c)))) - d))
theorem Ycr (a b c d : Int) : Xjm a b c d = some (t4F a b c d) := rfl
def Yei (a b : Int) : Int := Xaa .i64 (if a.tmod b < 0 then Xaa .i64 (a.tdiv b) - 1 else a.tdiv b)
theorem Xqi (a b : Int) (hb : b ≠ 0) : Xcc a b = some (Yei a b) := by
 unfold Xcc Yei
 rw [Xbn hb, Xbn hb, Yjw]
 split <;> rfl
def t4B (a b c d : Int) : Q4 := (Xaa .i64 ((Xaa .i64 (a + c)) + (Xaa .i64 (b + Yei d 2))), Xaa .i64 ((Xaa .i64 (a - c)) + (Xaa .i64 (Yei b 2 - d))), Xaa .i64 ((Xaa .i64 (a - c)) - (Xaa .i64 (Yei b 2 - d))), Xaa .i64 ((Xaa .i64 (a + c)) - (Xaa .i64 (b + Yei d 2))))
theorem Xs1 (a b c d : Int) : Xdi a b c d = some (t4B a b c d) := by
 unfold Xdi
 rw [Yjb, Xqi b 2 (by omega), Xqi d 2 (by omega), Xad, Xad]; rfl
theorem Xoy (p : List Int) (hl : p.length = 16) : Xec p = some (Xqt t4B p) := by
 have hm : maxLen = 9223372036854775807 := rfl
 unfold Xec
 rw [Yid (f := Xcb p) (t := t4B) p (by
  intro i s hi hs
  unfold Xcb
  simp only
  rw [syA, wkA (e := 4 * (i : Int)), wkA (e := 4 * (i : Int) + 1), wkA (e := 4 * (i : Int) + 2), wkA (e := 4 * (i : Int) + 3), rqA, rqA, rqA, rqA, show (4 * (i : Int)).toNat = 4 * i by omega, show (4 * (i : Int) + 1).toNat = 4 * i + 1 by omega, show (4 * (i : Int) + 2).toNat = 4 * i + 2 by omega, show (4 * (i : Int) + 3).toNat = 4 * i + 3 by omega, Xqi _ 2 (by omega), Xad, Xqi _ 2 (by omega), Xad, wkA (e := (i : Int) + 1), Xbn (by simp only [List.length_cons, List.length_nil]; omega)]
  rfl) (by intro s; unfold Xcb; rw [Xav (by simp)]), Xad]
theorem Xp5 (p : List Int) (hl : p.length = 16) : Xfb p = some (Xqt t4F p) := by
 have hm : maxLen = 9223372036854775807 := rfl
 unfold Xfb
 rw [Yid (f := Xcx p) (t := t4F) p (by
  intro i s hi hs
  unfold Xcx
  simp only
  rw [syA, wkA (e := 4 * (i : Int)), wkA (e := 4 * (i : Int) + 1), wkA (e := 4 * (i : Int) + 2), wkA (e := 4 * (i : Int) + 3), rqA, rqA, rqA, rqA, show (4 * (i : Int)).toNat = 4 * i by omega, show (4 * (i : Int) + 1).toNat = 4 * i + 1 by omega, show (4 * (i : Int) + 2).toNat = 4 * i + 2 by omega, show (4 * (i : Int) + 3).toNat = 4 * i + 3 by omega, wkA (e := (i : Int) + 1), Xbn (by simp only [List.length_cons, List.length_nil]; omega)]
  rfl) (by intro s; unfold Xcx; rw [Xav (by simp)]), Xad]
theorem Yck (p : List Int) (hl : p.length = 16) (hb : inB 10000000 p) : Xis p = Xfp p := by
 unfold Xis Xfp
 rw [Xm3 p 16 10000000 (by omega) (by omega) hb, Xb8 p 16 10000000 (by omega) (by omega) (by omega) hb, Xad, Xad, Bool.not_true, Xay, Xay, Yn9, Ylc Xs1 p hl, Xoy p hl, Xad, Xad, Xjg _ (Xni _ _), Xad, Xoy _ (Xpf _), Xad, Xjg _ (Xni _ _), Xad]
 exact Xt6 _ 16 (by omega) (Xpf _) (fun _ => rfl)
theorem Ylg (p : List Int) (hl : p.length = 16) (hb : inB 1000 p) : Xpj p = Xl1 p := by
 unfold Xpj Xl1
 rw [Xm3 p 16 1000 (by omega) (by omega) hb, Xb8 p 16 1000 (by omega) (by omega) (by omega) hb, Xad, Xad, Bool.not_true, Xay, Xay, Yoa, Ylc Ycr p hl, Xp5 p hl, Xad, Xad, Xjg _ (Xni _ _), Xad, Xp5 _ (Xpf _), Xad, Xjg _ (Xni _ _), Xad]
theorem Yl3 {β : Type} {c : Prop} [Decidable c] {k k' : Option β} (h : c → k = k') : req c k = req c k' := by
 by_cases hc : c
 ·
  rw [Xbn hc, Xbn hc, h hc]
 ·
  unfold req; rw [if_neg hc, if_neg hc]
theorem Xjl {β : Type} {c : Prop} [Decidable c] {k k' : Option β} (h0 : c) (h : k = k') : req c k = k' := by rw [Xbn h0, h]
theorem Xt5 {β : Type} {b : Bool} {x x' y y' : β} (h : b = true → x = x') (h2 : b = false → y = y') : sel b x y = sel b x' y' := by
 cases b
 ·
  exact h2 rfl
 ·
  exact h rfl
theorem Ylm {α β : Type} {x x' : Option α} {f f' : α → Option β} (h : x = x') (h2 : ∀ a, x' = some a → f a = f' a) : bnd x f = bnd x' f' := by
 subst h
 cases x with
 | none => rfl
 | some a => exact h2 a rfl
theorem Yne {V O : Type} {f : V → Option (Lp V O)} (I : V → Prop) (J : O → Prop) (h1 : ∀ v v', I v → f v = some (.go v') → I v') (h2 : ∀ v o, I v → f v = some (.done o) → J o) {v : V} {o : O} (h : loop f v = some o) (hv : I v) : J o := by
 obtain ⟨k, hk⟩ := Xhi.1 h
 clear h
 induction k generalizing v with
 | zero => cases hk
 | succ k ih =>
  rw [it] at hk
  cases e : f v with
  | none => rw [e] at hk; cases hk
  | some s =>
   rw [e] at hk
   cases s with
   | go y => exact ih (h1 v y hv e) hk
   | done o' => cases hk; exact h2 v o hv e
theorem Xzs (l qp p : Int) (h0 : 0 ≤ qp ∧ qp ≤ 40) (hp : 0 ≤ p ∧ p ≤ 15) : Xhq l qp p = Xeo l qp p := by
 unfold Xhq Xeo
 rw [Xar, Xai, Ye0 qp p h0 hp]
theorem Xzq (l qp : Int) (h0 : 0 ≤ qp ∧ qp ≤ 40) : Xho l qp = Xen l qp := by
 unfold Xho Xen
 rw [Xar, Xai, Xws qp h0]
theorem Ybf (x : Int) (h : -1000000000000 ≤ x ∧ x ≤ 1000000000000) : Xkq x = Xc6 x := by
 unfold Xkq Xc6
 rw [wkA]
 by_cases hx : x < 0
 ·
  rw [Xbu hx, if_pos (by omega)]
 ·
  rw [Xav hx, if_neg (by omega)]
theorem Yn0 : ∀ q : Fin 41, ∀ p : Fin 16, Xkp (q.val : Int) (p.val : Int) = Xgy (q.val : Int) (p.val : Int) := by decide +kernel
theorem Ye1 (qp p : Int) (h0 : 0 ≤ qp ∧ qp ≤ 40) (hp : 0 ≤ p ∧ p ≤ 15) : Xkp qp p = Xgy qp p := by
 have := Yn0 ⟨qp.toNat, by omega⟩ ⟨p.toNat, by omega⟩
 simp only at this
 rwa [show ((qp.toNat : Nat) : Int) = qp by omega, show ((p.toNat : Nat) : Int) = p by omega] at this
theorem Yik (x w : Int) : Xlt x w = Xep w x := rfl
theorem Xw2 (w qp : Int) (h0 : 0 ≤ qp ∧ qp ≤ 40) : Xgi w qp = Xdq w qp := by
 unfold Xgi Xdq
 rw [Xar, Xai, Xar, Xai, Xws qp h0]
 by_cases hw : -20000 ≤ w ∧ w ≤ 20000
 ·
  rw [Ybf w (by omega)]; rfl
 ·
  rw [decide_eq_false hw]; rfl
theorem Ys9 (qp : Int) (h0 : 0 ≤ qp ∧ qp ≤ 40) : Xaa .u64 (Xaa .i64 (15 + (Xaa .i64 (qp.tdiv 6)))) = Xaa .i64 (15 + (Xaa .i64 (qp.tdiv 6))) := by
 have h : ∀ q : Fin 41, Xaa .u64 (Xaa .i64 (15 + (Xaa .i64 ((q.val : Int).tdiv 6)))) = Xaa .i64 (15 + (Xaa .i64 ((q.val : Int).tdiv 6))) := by decide +kernel
 have := h ⟨qp.toNat, by omega⟩
 simp only at this
 rwa [show ((qp.toNat : Nat) : Int) = qp by omega] at this
theorem Xw3 (w qp p : Int) (h0 : 0 ≤ qp ∧ qp ≤ 40) (hp : 0 ≤ p ∧ p ≤ 15) : Xgl w qp p = Xds w qp p := by
 unfold Xgl Xds
 have h15 := Ys9 qp h0
 simp only [Xar, Xai, Ye1 qp p h0 hp, h15, Yik]
 by_cases hw : -20000 ≤ w ∧ w ≤ 20000
 ·
  simp only [Ybf w (by omega)]
 ·
  simp only [decide_eq_false hw, Xad, Xay, Xaz]
def Xt1 (k : Int) (v7 : Int × List Int) : Option (Lp (Int × List Int) (List Int)) :=
 sel (decide (v7.1 < 4)) (
 bnd (it (Xk1 k v7) 10 (0, v7.2)) fun v18 =>
 some (.go (Xaa .i64 (v7.1 + 1), v18))) (
 some (.done v7.2))
theorem Yib {k : Int} {v : Int × List Int} {x : Lp (Int × List Int) (List Int)} (h : Xt1 k v = some x) : Xhz k v = some x := by
 unfold Xt1 at h
 unfold Xhz
 rcases Xh0 h with ⟨hb, h⟩ | ⟨hb, h⟩
 ·
  rw [hb, Xaz]
  obtain ⟨a, h1, h2⟩ := Xa3 h
  rw [Xhi.2 ⟨10, h1⟩, Xad]
  exact h2
 ·
  rw [hb, Xay]; exact h
def Xi4 (k : Int) : List Int := (it (Xt1 k) 10 (0, [])).getD []
def Xku (k i : Int) : Int := (Xaa .i64 ((Xaa .i64 ((Xaa .i64 (8 * (Xaa .i64 ((Xaa .i64 ((Xaa .i64 (k.tdiv 2)) * 4)) + (Xaa .i64 (i.tdiv 4)))))) + (Xaa .i64 ((k.tmod 2) * 4)))) + (i.tmod 4)))
theorem Yjs : ∀ k : Fin 4, (it (Xt1 (k.val : Int)) 10 (0, [])).isSome = true ∧ (Xi4 (k.val : Int)).length = 16 ∧ ∀ i : Fin 16, (Xi4 (k.val : Int)).getD i.val 0 = Xku (k.val : Int) (i.val : Int) ∧ 0 ≤ Xku (k.val : Int) (i.val : Int) ∧ Xku (k.val : Int) (i.val : Int) < 64 := by decide +kernel
theorem Xlr (k : Nat) (hk : k < 4) : Xif k = some (Xi4 k) ∧ (Xi4 k).length = 16 ∧ ∀ i : Nat, i < 16 → (Xi4 k).getD i 0 = Xku k i ∧ 0 ≤ Xku k i ∧ Xku k i < 64 := by
 obtain ⟨h1, h2, h3⟩ := Yjs ⟨k, hk⟩
 refine ⟨?_, h2, fun i hi => h3 ⟨i, hi⟩⟩
 obtain ⟨o, ho⟩ := Option.isSome_iff_exists.1 h1
 have hl := Yjo 10 (Yo4 (fun v y => Yib (k := (k : Int))) 10 _ ho)
 unfold Xif
 rw [hl, Xad]
 unfold Xi4; simp only at ho; rw [ho]; rfl
theorem Xol (p : List Int) (c : Cond) (hc : Xin c = true) (hp : Ych p = true) : Xgj p c = Xcu p c := by
 have hq := Xss hc
 obtain ⟨hl, hb⟩ := Xvx hp
 unfold Xgj Xcu
 rw [Xbp, Xf0, Xm8 p (by omega), hp, hc, Xb8 p 64 5000 (by omega) (by omega) (by omega) hb]
 simp only [Xad, Xaz, Bool.not_true, Xay]
 rw [Xpc 8 (Or.inr rfl) p (by omega)]
 refine Xt5 (fun _ => rfl) fun _ => Xt5 (fun _ => ?_) fun _ => ?_
 ·
  obtain ⟨w, ew, w1, w2⟩ := Xe6 8 (Or.inr rfl) p 5000 (by omega) (by omega) hb
  rw [ew, Xad, Xad]
  have hloop : loop (Xd1 c (w, true)) (0, (w, true).1) = loop (Xa6 c) (0, (w, true).1) := by
   have : Xd1 c (w, true) = Xa6 c := by
    funext v
    unfold Xd1 Xa6
    simp only [Xzq _ _ hq, w1, hl]
    rfl
   rw [this]
  rw [hloop]
  obtain ⟨l, el, l1, l2⟩ := Xkg (f := Xa6 c) 64 (fun x => -5000 ≤ x ∧ x ≤ 5000) (fun x => -5760000 ≤ x ∧ x ≤ 5760000) (by
   intro i l hi hll hx
   obtain ⟨d, ed, d1, d2⟩ := Xnm (l.getD i 0) c.Qp hx hq
   unfold Xa6
   simp only [Int.toNat_natCast]
   rw [syA, rqA, rqA, ed, Xad, rqA, rqA, wkA (e := (i : Int) + 1)]
   exact ⟨d, rfl, d1, d2⟩) (by intro s; unfold Xa6; rw [Xav (by simp)]) w (by omega) w2
  simp only [el, Xad]
  rw [Xzp l l1 (Xmk l2 (by omega))]
 ·
  refine Yl3 fun _ => Ylm ?_ fun _ _ => rfl
  refine Xj2 (fun v => (∃ k : Nat, v.1 = (k : Int) ∧ k ≤ 4) ∧ v.2.length = 64) ?_ ?_ ⟨⟨0, rfl, by omega⟩, by simp⟩
  ·
   intro ⟨k0, s⟩ ⟨⟨k, ek, hk⟩, hs⟩
   simp only at ek hs
   subst ek
   unfold Xh5 Xbv
   simp only
   refine Xt5 (fun hk4 => ?_) fun _ => rfl
   have hk4 : k < 4 := by have := of_decide_eq_true hk4; omega
   rw [wkA (e := 16 * (k : Int)), wkA (e := 16 * (k : Int) + 16)]
   refine Yl3 fun _ => ?_
   rw [show (16 * (k : Int)).toNat = 16 * k by omega, show (16 * (k : Int) + 16).toNat - 16 * k = 16 by omega]
   have hcut : ((p.drop (16 * k)).take 16).length = 16 := by rw [List.length_take, List.length_drop]; omega
   obtain ⟨a, ea, a1, a2⟩ := Xe6 4 (Or.inl rfl) ((p.drop (16 * k)).take 16) 5000 (by omega) (by omega) (Ykk (Yki hb _) _)
   rw [Xpc 4 (Or.inl rfl) _ (by omega), ea, Xad, Xad]
   have hloop : loop (Xdj c (a, true)) (0, (a, true).1) = loop (Xa4 c) (0, (a, true).1) := by
    have : Xdj c (a, true) = Xa4 c := by
     funext v
     unfold Xdj Xa4
     simp only [show ((a.length : Nat) : Int) = 16 by omega]
     refine Xt5 (fun h16 => ?_) fun _ => rfl
     have := of_decide_eq_true h16
     refine Yl3 fun h0 => Yl3 fun _ => ?_
     rw [Xzs _ _ _ hq (by omega)]
    rw [this]
   rw [hloop]
   obtain ⟨l, el, l1, l2⟩ := Xkg (f := Xa4 c) 16 (fun x => -5000 ≤ x ∧ x ≤ 5000) (fun x => -10000000 ≤ x ∧ x ≤ 10000000) (by
    intro i l hi hll hx
    obtain ⟨d, ed, d1, d2⟩ := Xnn (l.getD i 0) c.Qp i hx hq (by omega)
    unfold Xa4
    simp only [Int.toNat_natCast]
    rw [syA, rqA, rqA, ed, Xad, rqA, rqA, wkA (e := (i : Int) + 1)]
    exact ⟨d, rfl, d1, d2⟩) (by intro s; unfold Xa4; rw [Xav (by simp)]) a (by omega) a2
   obtain ⟨b, eb, b1, b2⟩ := Xou l l1 l2
   obtain ⟨q1, q2, q3⟩ := Xlr k hk4
   simp only [el, Xad]
   rw [Yck l l1 l2, eb, Xad, Xad, q1, Xad]
   refine Ylm ?_ fun _ _ => rfl
   have : Xfh b (Xi4 k) = Xa7 ((k : Int), s) b := by
    funext v
    unfold Xfh Xa7
    simp only [show (((Xi4 k).length : Nat) : Int) = 16 by omega]
    refine Xt5 (fun h16 => ?_) fun _ => rfl
    have h16 := of_decide_eq_true h16
    by_cases h0 : 0 ≤ v.1
    ·
     obtain ⟨i, hi⟩ : ∃ i : Nat, v.1 = (i : Int) := ⟨v.1.toNat, by omega⟩
     obtain ⟨v1, v2⟩ := v
     simp only at hi h0 h16
     subst hi
     obtain ⟨r1, r2, r3⟩ := q3 i (by omega)
     have e1 : (Xaa .i64 ((Xaa .i64 ((Xaa .i64 (8 * (Xaa .i64 ((Xaa .i64 ((Xaa .i64 ((k : Int).tdiv 2)) * 4)) + (Xaa .i64 ((i : Int).tdiv 4)))))) + (Xaa .i64 (((k : Int).tmod 2) * 4)))) + ((i : Int).tmod 4))) = Xku k i := rfl
     simp only [Int.toNat_natCast, r1, e1]
     refine Xjl (by omega) (Xjl (by omega) (Xjl (by omega) (Xjl (by omega) ?_)))
     refine (Xjl (by omega) (Xjl (by omega) (Xjl (by omega) (Xjl (by omega) (Xjl (by omega) (Xjl (by omega) ?_)))))).symm
     rfl
    ·
     unfold req
     rw [if_neg (by omega), if_pos (by omega), if_pos (by omega), if_pos (by omega), if_pos (by omega), if_neg (by omega)]
   rw [this]
  ·
   intro ⟨k0, s⟩ v' ⟨⟨k, ek, hk⟩, hs⟩ he
   simp only at ek hs
   subst ek
   unfold Xbv at he
   simp only at he
   rcases Xh0 he with ⟨hb4, he⟩ | ⟨_, he⟩
   ·
    have hk4 : k < 4 := by have := of_decide_eq_true hb4; omega
    obtain ⟨_, he⟩ := Xaw he
    obtain ⟨a, _, he⟩ := Xa3 he
    obtain ⟨l, _, he⟩ := Xa3 he
    obtain ⟨b, _, he⟩ := Xa3 he
    obtain ⟨r, hr, he⟩ := Xa3 he
    rw [wkA (e := (k : Int) + 1)] at he
    cases he
    refine ⟨⟨k + 1, rfl, by omega⟩, ?_⟩
    refine Yne (f := Xa7 ((k : Int), s) b) (fun v => v.2.length = 64) (fun o => o.length = 64) ?_ ?_ hr hs
    ·
     intro v v' hv he
     unfold Xa7 at he
     rcases Xh0 he with ⟨_, he⟩ | ⟨_, he⟩
     ·
      obtain ⟨_, he⟩ := Xaw he
      obtain ⟨_, he⟩ := Xaw he
      obtain ⟨_, he⟩ := Xaw he
      obtain ⟨_, he⟩ := Xaw he
      obtain ⟨_, he⟩ := Xaw he
      obtain ⟨_, he⟩ := Xaw he
      obtain ⟨_, he⟩ := Xaw he
      obtain ⟨_, he⟩ := Xaw he
      cases he
      simp only [List.length_set]; exact hv
     ·
      cases he
    ·
     intro v o hv he
     unfold Xa7 at he
     rcases Xh0 he with ⟨_, he⟩ | ⟨_, he⟩
     ·
      obtain ⟨_, he⟩ := Xaw he
      obtain ⟨_, he⟩ := Xaw he
      obtain ⟨_, he⟩ := Xaw he
      obtain ⟨_, he⟩ := Xaw he
      obtain ⟨_, he⟩ := Xaw he
      obtain ⟨_, he⟩ := Xaw he
      obtain ⟨_, he⟩ := Xaw he
      obtain ⟨_, he⟩ := Xaw he
      cases he
     ·
      cases he; exact hv
   ·
    cases he
theorem Yku {S O : Type} {f g : Int × S → Option (Lp (Int × S) O)} (n : Nat) (I : Nat → S → Prop) (h : ∀ (i : Nat) (s : S), i ≤ n → I i s → f ((i : Int), s) = g ((i : Int), s)) (hI : ∀ (i : Nat) (s : S) (v' : Int × S), i ≤ n → I i s → g ((i : Int), s) = some (.go v') → v'.1 = ((i + 1 : Nat) : Int) ∧ i + 1 ≤ n ∧ I (i + 1) v'.2) {s0 : S} (h0 : I 0 s0) : loop f (0, s0) = loop g (0, s0) := by
 refine Xj2 (fun v => ∃ i : Nat, v.1 = (i : Int) ∧ i ≤ n ∧ I i v.2) ?_ ?_ ⟨0, rfl, by omega, h0⟩
 ·
  intro ⟨k, s⟩ ⟨i, e, hi, hs⟩
  simp only at e hs
  subst e
  exact h i s hi hs
 ·
  intro ⟨k, s⟩ v' ⟨i, e, hi, hs⟩ he
  simp only at e hs
  subst e
  obtain ⟨a, b, c⟩ := hI i s v' hi hs he
  exact ⟨i + 1, a, b, c⟩
theorem Yic (p : List Int) (hl : p.length = 64) (k : Nat) (hk : k < 4) : loop (Xex p (Xi4 k)) (0, ([] : List Int)) = Xdt p k := by
 obtain ⟨q1, q2, q3⟩ := Xlr k hk
 unfold Xdt
 rw [Yku (f := Xex p (Xi4 k)) (g := Xbe p k) 16 (fun _ _ => True) ?_ ?_ trivial]
 ·
  cases loop (Xbe p k) (0, ([] : List Int)) <;> rfl
 ·
  intro i s hi _
  unfold Xex Xbe
  simp only [show (((Xi4 k).length : Nat) : Int) = 16 by omega]
  refine Xt5 (fun h16 => ?_) fun _ => rfl
  have h16 := of_decide_eq_true h16
  obtain ⟨r1, r2, r3⟩ := q3 i (by omega)
  have e1 : (Xaa .i64 ((Xaa .i64 ((Xaa .i64 (8 * (Xaa .i64 ((Xaa .i64 ((Xaa .i64 ((k : Int).tdiv 2)) * 4)) + (Xaa .i64 ((i : Int).tdiv 4)))))) + (Xaa .i64 (((k : Int).tmod 2) * 4)))) + ((i : Int).tmod 4))) = Xku k i := rfl
  simp only [Int.toNat_natCast, r1, e1]
  refine Xjl (by omega) (Xjl (by omega) (Xjl (by omega) ?_))
  refine (Xjl (by omega) (Xjl (by omega) (Xjl (by omega) (Xjl (by omega) (Xjl (by omega) ?_))))).symm
  rfl
 ·
  intro i s v' hi _ he
  unfold Xbe at he
  rcases Xh0 he with ⟨hb, he⟩ | ⟨_, he⟩
  ·
   have h16 := of_decide_eq_true hb
   simp only at h16 he
   obtain ⟨_, he⟩ := Xaw he
   obtain ⟨_, he⟩ := Xaw he
   obtain ⟨_, he⟩ := Xaw he
   obtain ⟨_, he⟩ := Xaw he
   obtain ⟨_, he⟩ := Xaw he
   obtain ⟨_, he⟩ := Xaw he
   injection he with he
   injection he with he
   subst he
   exact ⟨wkA, by omega, trivial⟩
  ·
   cases he
theorem Xqu (p : List Int) (c : Cond) (hc : Xin c = true) (hl : p.length = 64) (hb : inB 255 p) : Xfi p c = Xb6 p c := by
 have hq := Xss hc
 unfold Xfi Xb6
 rw [Xbp, Xf0, Xm3 p 64 255 (by omega) (by omega) hb, hc, Xb8 p 64 255 (by omega) (by omega) (by omega) hb]
 simp only [Xad, Xaz, Bool.not_true, Xay]
 rw [Xnx 8 (Or.inr rfl) p (by omega)]
 refine Xt5 (fun _ => rfl) fun _ => Xt5 (fun _ => ?_) fun _ => ?_
 ·
  obtain ⟨w, ew, w1⟩ := Xuc p hl hb
  rw [Yix p hl (Xmk hb (by omega)), ew, Xad, Xad]
  have : Xhx c w = Xbi c := by
   funext v
   unfold Xhx Xbi
   simp only [Xw2 _ _ hq, w1]
   rfl
  rw [this]
  obtain ⟨l, el, l1, l2⟩ := Xkg (f := Xbi c) 64 (fun _ => True) (fun x => -5000 ≤ x ∧ x ≤ 5000) (by
   intro i l hi hll _
   obtain ⟨d, ed, d1, d2⟩ := Xmp (l.getD i 0) c.Qp hq
   unfold Xbi
   simp only [Int.toNat_natCast]
   rw [syA, rqA, rqA, ed, Xad, rqA, rqA, wkA (e := (i : Int) + 1)]
   exact ⟨d, rfl, d1, d2⟩) (by intro s; unfold Xbi; rw [Xav (by simp)]) w w1 (fun _ _ => trivial)
  rw [el, Xad, Xad, Xnx 8 (Or.inr rfl) l (by omega)]
 ·
  refine Ylm ?_ fun _ _ => rfl
  refine Yku 4 (fun _ _ => True) ?_ ?_ trivial
  ·
   intro k s hk _
   unfold Xjo Xcm
   refine Xt5 (fun h4 => ?_) fun _ => rfl
   have hk4 : k < 4 := by have := of_decide_eq_true h4; simp only at this; omega
   obtain ⟨q1, q2, q3⟩ := Xlr k hk4
   simp only [q1, Xad]
   rw [Yic p hl k hk4]
   obtain ⟨a, ea, a1, a2⟩ := Xms p k hk4 255 hl hb
   obtain ⟨b, eb, b1, b2⟩ := Xw1 a a1 a2
   rw [ea, Xad, Xad, Ylg a a1 (Xmk a2 (by omega)), eb, Xad, Xad]
   have : Xg6 c b = Xbc c := by
    funext v
    unfold Xg6 Xbc
    simp only [show ((b.length : Nat) : Int) = 16 by omega]
    refine Xt5 (fun h16 => ?_) fun _ => rfl
    have := of_decide_eq_true h16
    refine Yl3 fun h0 => Yl3 fun _ => ?_
    rw [Xw3 _ _ _ hq (by omega)]
   rw [this]
   obtain ⟨l, el, l1, l2⟩ := Xkg (f := Xbc c) 16 (fun x => -9180 ≤ x ∧ x ≤ 9180) (fun x => -5000 ≤ x ∧ x ≤ 5000) (by
    intro i l hi hll hx
    obtain ⟨d, ed, d1, d2⟩ := Xmr (l.getD i 0) c.Qp i hx hq (by omega)
    unfold Xbc
    simp only [Int.toNat_natCast]
    rw [syA, rqA, rqA, ed, Xad, rqA, rqA, wkA (e := (i : Int) + 1)]
    exact ⟨d, rfl, d1, d2⟩) (by intro s; unfold Xbc; rw [Xav (by simp)]) b b1 b2
   rw [el, Xad, Xad, Xnx 4 (Or.inl rfl) l (by omega)]
  ·
   intro k s v' hk _ he
   unfold Xcm at he
   rcases Xh0 he with ⟨hb4, he⟩ | ⟨_, he⟩
   ·
    have hk4 := of_decide_eq_true hb4
    simp only at hk4 he
    obtain ⟨a, _, he⟩ := Xa3 he
    obtain ⟨l, _, he⟩ := Xa3 he
    obtain ⟨b, _, he⟩ := Xa3 he
    obtain ⟨r, _, he⟩ := Xa3 he
    obtain ⟨_, he⟩ := Xaw he
    injection he with he
    injection he with he
    subst he
    exact ⟨wkA, by omega, trivial⟩
   ·
    cases he
theorem Yha {p : Pic} (ok : Xb1 p = true) (x y : Int) : Xd5 p x y = Xe2 p x y := by rw [Yap ok, Xi8 ok]
theorem Xps {p : Pic} (ok : Xb1 p = true) {x y : Int} (hx : x.tmod 8 = 0) (hy : y.tmod 8 = 0) (h : Xbj p x y = true) : Xbk p x y = some true := Xk0 ok x y hx hy h
theorem Xso {p : Pic} (ok : Xb1 p = true) {x y : Int} (hx : x.tmod 8 = 0) (hy : y.tmod 8 = 0) (h : Xbj p x y = true) : Xid p x y = Xea p x y := by
 unfold Xid Xea
 rw [Xb3, ok, Xps ok hx hy h, Xcf ok hx hy h]
 have : Xir p x y = Xdp p x y := by
  funext v
  unfold Xir Xdp
  simp only [Yha ok]
 simp only [Xad, Xaz, Bool.not_true, Xay, this, Yha ok]
theorem Xzo {e : Xg4} (h : Xpe e) : Xie e = some true := by
 obtain ⟨h1, h2, h3, h4, h5, h6⟩ := h
 have side : ∀ l : List Int, (l.length = 0 ∨ l.length = 8) → (∀ x ∈ l, 0 ≤ x ∧ x ≤ 255) → bnd (sel (decide ((l.length : Int) > 0)) (bnd (Xba l 8 0 255) fun q10 => some (!q10)) (some false)) (fun v9 => some v9) = some false := by
  intro l hl hb
  rcases hl with e | e
  ·
   rw [snA]; rfl
  ·
   rw [syA, Xiw l 8 0 255 (by omega)]
   have : (l.all fun x => decide (0 ≤ x ∧ x ≤ 255)) = true := List.all_eq_true.2 fun x hx => decide_eq_true (hb x hx)
   rw [this, e]; rfl
 have go : ∀ (i : Nat) (l : List Int), i < 2 → ([e.Above, e.Left]).getD i Xy9 = l → (l.length = 0 ∨ l.length = 8) → (∀ x ∈ l, 0 ≤ x ∧ x ≤ 255) → Xew e (i : Int) = some (.go ((i + 1 : Nat) : Int)) := by
  intro i l hi hg hl hb
  unfold Xew
  simp only [Int.toNat_natCast, hg]
  have hs := side l hl hb
  rw [Xbu (by simp only [List.length_cons, List.length_nil]; omega), Xbn (by simp only [List.length_cons, List.length_nil]; omega), Xbn (by simp only [List.length_cons, List.length_nil]; omega)]
  obtain ⟨a, ea, hs⟩ := Xa3 hs
  injection hs with hs
  subst hs
  rw [ea, Xad, Xay, wkA]
  rfl
 unfold Xie
 have : loop (Xew e) 0 = some (.out ()) := by
  refine lgo (go 0 e.Above (by omega) rfl h1 h3) (lgo (go 1 e.Left (by omega) rfl h2 h4) (Xj0 ?_))
  unfold Xew
  rw [Xav (by simp)]
 rw [this, Xad, Xar, Xad, decide_eq_true ⟨h5, h6⟩]
def Ylb (l : List Int) : Nat → Int
 | 0 => 0
 | n + 1 => Ylb l n + l.getD n 0
theorem Xqo {l : List Int} (h : ∀ x ∈ l, 0 ≤ x ∧ x ≤ 255) : ∀ n : Nat, n ≤ l.length → 0 ≤ Ylb l n ∧ Ylb l n ≤ 255 * n
 | 0, _ => by simp [Ylb]
 | n + 1, hn => by
  have a := Xqo h n (by omega)
  have b := h (l.getD n 0) (by rw [Xff l n (by omega)]; exact List.getElem_mem _)
  rw [Ylb]; omega
theorem Ygu {f : Int × Int → Option (Lp (Int × Int) Int)} {l : List Int} (hl : l.length ≤ 64) (h : ∀ x ∈ l, 0 ≤ x ∧ x ≤ 255) (hf : ∀ v, f v = sel (decide (v.2 < (l.length : Int))) (req (0 ≤ v.2 ∧ v.2 < l.length) <| some (.go (Xaa .i64 (v.1 + (l.getD v.2.toNat 0)), Xaa .i64 (v.2 + 1)))) (some (.done v.1))) (a : Int) (ha : 0 ≤ a ∧ a ≤ 100000) : loop f (a, 0) = some (a + Ylb l l.length) := by
 obtain ⟨o, e, ho⟩ := Xmf (f := f) l.length (fun i s => s = a + Ylb l i) (by
  intro i s hi g
  have r := Xqo h i (by omega)
  have b := h (l.getD i 0) (by rw [Xff l i (by omega)]; exact List.getElem_mem _)
  rw [hf]
  simp only [Int.toNat_natCast]
  rw [syA, rqA, wkA (e := s + l.getD i 0), wkA (e := (i : Int) + 1)]
  exact ⟨_, rfl, by rw [Ylb]; omega⟩) (by intro s; rw [hf, Xav (by simp)]) a (by simp [Ylb])
 rw [e, ho]
theorem Xtt {l : List Int} (hl : l.length ≤ 64) (h : ∀ x ∈ l, 0 ≤ x ∧ x ≤ 255) : Xih l = some (Ylb l l.length) := by
 unfold Xih
 rw [Ygu (f := Xn8 l) hl h (fun _ => rfl) 0 (by omega), Xad, Int.zero_add]
theorem Ynj {e : Xg4} (h : Xpe e) : (sel (decide ((Xaa .i64 ((e.Above.length : Int) + (e.Left.length : Int))) > 0)) (bnd (Xih e.Above) fun q5 => bnd (Xih e.Left) fun q6 => req ((2 : Int) ≠ 0) <| req ((Xaa .i64 ((e.Above.length : Int) + (e.Left.length : Int))) ≠ 0) <|
  some (Xaa .i64 ((Xaa .i64 ((Xaa .i64 (q5 + q6)) + (Xaa .i64 ((Xaa .i64 ((e.Above.length : Int) + (e.Left.length : Int))).tdiv 2)))).tdiv (Xaa .i64 ((e.Above.length : Int) + (e.Left.length : Int)))))) (some 128)) = Xia e := by
 obtain ⟨h1, h2, h3, h4, h5, h6⟩ := h
 unfold Xia
 have r1 := Xqo h3 e.Above.length (Nat.le_refl _)
 have r2 := Xqo h4 e.Left.length (Nat.le_refl _)
 rw [wkA (e := (e.Above.length : Int) + (e.Left.length : Int))]
 by_cases hz : (e.Above.length : Int) + (e.Left.length : Int) = 0
 ·
  rw [snA, Xhj (by simpa using hz)]
 ·
  rw [syA, Xc5 (by simpa using hz), Xtt (by omega) h3, Xad, Xtt (by omega) h4, Xad, rqA, Xbn hz, rqA, Xcr (a := (e.Above.length : Int) + (e.Left.length : Int)) (by omega), wkA (e := ((e.Above.length : Int) + (e.Left.length : Int)) / 2),
   Ygu (f := Xf5 e) (by omega) h3 (fun _ => rfl) _ (by omega), Xad, Ygu (f := Xf6 e) (by omega) h4 (fun _ => rfl) _ (by omega), Xad, Xbn hz, wkA (e := Ylb e.Above e.Above.length + Ylb e.Left e.Left.length), wkA (e := Ylb e.Above e.Above.length + Ylb e.Left e.Left.length + ((e.Above.length : Int) + (e.Left.length : Int)) / 2)]
  congr 3; omega
theorem Yh6 (l : List Int) (hl : l.length = 0 ∨ l.length = 8) : ∃ g, Xjv l = some g ∧ g.length = 8 ∧ ∀ k : Nat, k < 8 → Xcq l k = some (g.getD k 0) := by
 unfold Xjv
 rcases hl with e | e
 ·
  refine ⟨_, Xhj (by rw [e]; rfl), rfl, fun k hk => ?_⟩
  unfold Xcq
  rw [Xhj (by rw [e]; rfl)]
  congr 1
  obtain rfl | rfl | rfl | rfl | rfl | rfl | rfl | rfl : k = 0 ∨ k = 1 ∨ k = 2 ∨ k = 3 ∨ k = 4 ∨ k = 5 ∨ k = 6 ∨ k = 7 := by omega
  all_goals rfl
 ·
  refine ⟨l, Xc5 (by rw [e]; rfl), e, fun k hk => ?_⟩
  unfold Xcq
  rw [Xc5 (by rw [e]; rfl), rqA, Int.toNat_natCast]
theorem Ye8 (n a b : Int) : Xd0 n a b = Xd9 n a b := by rw [Xiq, Xe1]
def Xu6 (m mid v : Int) (A B : List Int) (i : Nat) : Int := sel (m == 0) mid (sel (m == 1) (A.getD (i % 8) 0) (sel (m == 2) (B.getD (i / 8) 0) (Xcg (Xaa .i64 (Xaa .i64 (B.getD (i / 8) 0 + A.getD (i % 8) 0) - v)) 0 255)))
theorem Yls {f1 : Int × List Int → Option (Lp (Int × List Int) (List Int))} {f2 : Int × List Int → Int × List Int → Option (Lp (Int × List Int) (List Int))} (g : Nat → Int)
  (h1 : ∀ v, f1 v = sel (decide (v.1 < 8)) (bnd (loop (f2 v) (0, v.2)) fun w => some (.go (Xaa .i64 (v.1 + 1), w))) (some (.done v.2)))
  (h2 : ∀ (r c : Nat) (a s : List Int), r < 8 → c < 8 → s.length = 8 * r + c → f2 ((r : Int), a) ((c : Int), s) = some (.go (((c + 1 : Nat) : Int), s ++ [g (8 * r + c)])))
  (h3 : ∀ (r : Nat) (a s : List Int), f2 ((r : Int), a) (8, s) = some (.done s)) : loop f1 (0, []) = some ((List.range 64).map g) := by
 obtain ⟨o, e, ho⟩ := Xc1 (f := f1) 8 (fun r s => s = (List.range (8 * r)).map g) (by
  intro r s hr hs
  obtain ⟨q, eq, hq⟩ := Xkl (f := f2 ((r : Int), s)) 8 (fun c s' => s' = (List.range (8 * r + c)).map g) (by
   intro c s' hc hs'
   exact ⟨_, h2 r c s s' hr hc (by rw [hs']; simp), by rw [hs', show 8 * r + (c + 1) = (8 * r + c) + 1 by omega, List.range_succ, List.map_append]; rfl⟩) (fun z _ => h3 r s z) s hs
  rw [h1]
  refine ⟨q, ?_, by rw [hq, show 8 * (r + 1) = 8 * r + 8 by omega]⟩
  simp only
  rw [syA, eq, Xad, wkA]
  rfl) (by intro s; rw [h1, Xav (by simp)]) [] rfl
 rw [e, ho]
theorem Ygz (m : Int) (hm0 : 0 ≤ m ∧ m ≤ 3) {e : Xg4} (h : Xpe e) : ∃ g, Xe9 m e = some g ∧ Xcs m e = some g := by
 have hm : maxLen = 9223372036854775807 := rfl
 obtain ⟨mid, em, m1, m2⟩ := Xrh h
 obtain ⟨A, eA, hA, fA⟩ := Yh6 e.Above h.1
 obtain ⟨B, eB, hB, fB⟩ := Yh6 e.Left h.2.1
 obtain ⟨v, ev⟩ : ∃ v, sel (decide (e.Corner < 0)) (some (128 : Int)) (some e.Corner) = some v := by rw [Yk6]; exact ⟨_, rfl⟩
 refine ⟨(List.range 64).map (Xu6 m mid v A B), ?_, ?_⟩
 ·
  unfold Xe9
  rw [Xzo h, Xad, Xaz, Xar, Xad, decide_eq_true hm0, Bool.not_true, Xad, Xay, Ynj h, em, Xad, eA, Xad, eB, Xad, ev, Xad, Yls (f1 := Xkx m mid A B v) (f2 := Xfs m mid A B v) (Xu6 m mid v A B) (fun _ => rfl) ?_ ?_, Xad]
  ·
   intro r c a s hr hc hs
   unfold Xfs Xu6
   simp only [Int.toNat_natCast, Xiq, Xad]
   rw [syA, wkA (e := (c : Int) + 1), show (8 * r + c) % 8 = c by omega, show (8 * r + c) / 8 = r by omega]
   cases (m == 0) with
   | true => rw [Xaz, Xbn (by simp only [List.length_singleton]; omega), Xad]; rfl
   | false =>
    rw [Xay]
    cases (m == 1) with
    | true => rw [Xaz, rqA, Xbn (by simp only [List.length_singleton]; omega), Xad]; rfl
    | false =>
     rw [Xay]
     cases (m == 2) with
     | true => rw [Xaz, rqA, Xbn (by simp only [List.length_singleton]; omega), Xad]; rfl
     | false => rw [Xay, rqA, rqA, Xbn (by simp only [List.length_singleton]; omega), Xad]; rfl
  ·
   intro r a s
   unfold Xfs
   rw [Xav (by simp)]
 ·
  unfold Xcs
  rw [Xh1 h, Xad, Xaz, Xai, Xad, decide_eq_true hm0, Bool.not_true, Xad, Xay, ev, Xad]
  obtain ⟨o, eo, ho⟩ := Xc1 (f := Xct m e v) 64 (fun i s => s = (List.range i).map (Xu6 m mid v A B)) (by
   intro i s hi hs
   have hlen : s.length = i := by rw [hs]; simp
   refine ⟨s ++ [Xu6 m mid v A B i], ?_, by rw [hs, List.range_succ, List.map_append]; rfl⟩
   unfold Xct Xu6
   simp only
   rw [syA, rqA, Xc7 (by omega), show (i : Int) % 8 = ((i % 8 : Nat) : Int) by omega, fA _ (by omega), Xad, rqA, Xcr (by omega), wkA (e := (i : Int) / 8), show (i : Int) / 8 = ((i / 8 : Nat) : Int) by omega, fB _ (by omega), Xad, wkA (e := (i : Int) + 1), em]
   cases (m == 0) with
   | true => rw [Xaz, Xad, Xbn (by simp only [List.length_singleton]; omega), Xad]; rfl
   | false =>
    rw [Xay]
    cases (m == 1) with
    | true => rw [Xaz, Xbn (by simp only [List.length_singleton]; omega), Xad]; rfl
    | false =>
     rw [Xay]
     cases (m == 2) with
     | true => rw [Xaz, Xbn (by simp only [List.length_singleton]; omega), Xad]; rfl
     | false => rw [Xay, Xe1, Xad, Xbn (by simp only [List.length_singleton]; omega), Xad]; rfl) (by intro s; unfold Xct; rw [Xav (by simp)]) [] rfl
  rw [eo, Xad, ho]
theorem Xnw (m : Int) (hm0 : 0 ≤ m ∧ m ≤ 3) {e : Xg4} (h : Xpe e) : Xe9 m e = Xcs m e := by
 obtain ⟨g, h1, h2⟩ := Ygz m hm0 h
 rw [h1, h2]
theorem Xwq (g b : List Int) (hg : Xa8 g = true) (hl : b.length = 64) (hb : inB 10000000 b) : Xjn g b = Xgw g b := by
 obtain ⟨g1, g2⟩ := Xa9 hg
 unfold Xjn Xgw
 rw [Xc0 g hg, Xgn g (by omega), hg, Xm3 b 64 10000000 (by omega) (by omega) hb, Xb8 b 64 10000000 (by omega) (by omega) (by omega) hb]
 have : Xkc g b = Xem g b := by
  funext v
  unfold Xkc Xem
  simp only [Ye8, show ((g.length : Nat) : Int) = 64 by omega]
 simp only [Xad, Xaz, Bool.not_true, Xay, this]
theorem Yis {s : Xan} (h : Xrj s = true) (h1 : s.Kind = 0) : s.Dx = 0 ∧ s.Dy = 0 := by
 unfold Xrj at h
 rw [h1] at h
 simp at h
 exact ⟨h.2.1, h.2.2.1⟩
theorem Ypm {s : Xan} (h : Xrj s = true) : (-16 ≤ s.Dx ∧ s.Dx ≤ 16) ∧ (-16 ≤ s.Dy ∧ s.Dy ≤ 16) := by
 have hk := Ycb h
 obtain h1 | h1 | h1 : s.Kind = 0 ∨ s.Kind = 1 ∨ s.Kind = 2 := by omega
 ·
  obtain ⟨a, b⟩ := Yis h h1; omega
 ·
  obtain ⟨a, b, _⟩ := Ygt h h1; exact ⟨a, b⟩
 ·
  unfold Xrj at h
  rw [h1] at h
  simp at h
  omega
theorem Yjd (s : Xan) (c : Cond) : Xgm s c = some (Yd9 s c) := by
 unfold Xgm Yd9
 cases c.Key <;> rfl
structure Ys7 (now ref : Pic) (l t x y : Int) (c : Cond) (q : Xan) : Prop where
 ok : Xb1 now = true
 hx : x.tmod 8 = 0
 hy : y.tmod 8 = 0
 h0 : Xbj now x y = true
 hl : 0 ≤ l ∧ l ≤ 256
 ht : 0 ≤ t ∧ t ≤ 256
 hc : Xin c = true
 hs : q.Levels.length ≤ 1048576
theorem Xpb {now ref : Pic} {l t x y : Int} {c : Cond} {q : Xan} (h : Ys7 now ref l t x y c q) (hq : Xrj q = true) (hL : Yd9 q c = true) (hr : c.Key = false → Xb1 ref = true) : ∃ d, Xdk now ref l t c x y q = some (d, true) ∧ Xbq now ref l t c x y q = some (d, true) ∧ Xa8 d = true := by
 obtain ⟨ok, hx, hy, h0, hl, ht, hc, hs⟩ := h
 obtain ⟨k1, k2, k3⟩ := Xa5 ok
 have h0' := h0
 unfold Xbj at h0'
 rw [decide_eq_true_eq] at h0'
 have dxy := Ypm hq
 unfold Xbq Xdk
 rw [Xcf ok hx hy h0, Xad, Xaz, Xai, Xad, decide_eq_true hl, Xaz, Xai, Xad, decide_eq_true ht, Xaz, Xow, Xad, hq, Xaz, Xbp, Xad, hc, Bool.not_true, Xad, Xay]
 rw [Xb3, Xad, ok, Xaz, Xps ok hx hy h0, Xad, Xaz, Xar, Xad, decide_eq_true hl, Xaz, Xar, Xad, decide_eq_true ht, Xaz, Xxn q (by omega), Xad, hq, Xaz, Xf0, Xad, hc, Xaz, Yjd, Xad, hL, Xaz]
 by_cases h2 : q.Kind = 2
 ·
  obtain ⟨hm, hlv⟩ := Yk7 hq h2
  obtain ⟨e, ee, he⟩ := Xi9 ok hx hy h0
  obtain ⟨b, eb, b1, b2⟩ := Xgc q.Levels c hc hlv
  obtain ⟨g, eg, hg⟩ := Xe4 q.Mode hm he
  obtain ⟨j, ej, hj⟩ := Xkj g b hg b1 b2
  refine ⟨j, ?_, ?_, hj⟩
  ·
   rw [Xc5 (b := q.Kind != 2) (by simpa using h2), Xad, Xay, Xc5 (by rw [h2]; rfl), Xol q.Levels c hc hlv, eb, Xad, Xc5 (by rw [h2]; rfl), Xso ok hx hy h0, ee, Xad, Xnw q.Mode hm he, eg, Xad, Xwq g b hg b1 b2, ej, Xad]
  ·
   rw [Xhj (by simpa using h2), ee, Xad, eb, Xad, eg, Xad, ej, Xad]
 ·
  have hK : c.Key = false := by
   unfold Yd9 at hL
   cases hk : c.Key with
   | false => rfl
   | true => rw [hk] at hL; simp at hL; exact absurd hL h2
  have rok := hr hK
  rw [Xhj (b := q.Kind != 2) (by simpa using h2), Xb3, Xad, rok, Bool.not_true, Xad, Xay]
  rw [Xc5 (b := q.Kind == 2) (by simpa using h2), hK, Xay, Xcn, Xad, rok, Bool.not_true, Xad, Xay]
  rw [wkA (e := l + x), wkA (e := l + x + q.Dx), wkA (e := t + y), wkA (e := t + y + q.Dy), Xbo rok _ _ (by omega) (by omega), Xad, Xfj rok _ _ (by omega) (by omega), Xad, Xfj rok _ _ (by omega) (by omega)]
  by_cases h3 : q.Kind = 0
  ·
   obtain ⟨z1, z2⟩ := Yis hq h3
   rw [Xhj (b := q.Kind == 0) (by simpa using h3), Xhj (b := q.Kind == 0) (by simpa using h3), z1, z2, Int.add_zero, Int.add_zero]
   exact ⟨_, rfl, rfl, Xdh _ _ _⟩
  ·
   have h1 : q.Kind = 1 := by have := Ycb hq; omega
   obtain ⟨_, _, hlv⟩ := Ygt hq h1
   obtain ⟨b, eb, b1, b2⟩ := Xgc q.Levels c hc hlv
   obtain ⟨j, ej, hj⟩ := Xkj _ b (Xdh ref (l + x + q.Dx) (t + y + q.Dy)) b1 b2
   rw [Xc5 (b := q.Kind == 0) (by simpa using h3), Xc5 (b := q.Kind == 0) (by simpa using h3), Xol q.Levels c hc hlv, eb, Xad, Xad, Xhj (b := q.Kind == 1) (by simpa using h1), Xad, Xwq _ b (Xdh _ _ _) b1 b2, ej, Xad]
   exact ⟨_, rfl, rfl, hj⟩
theorem Ypc {β : Type} {a b c : Prop} [Decidable a] [Decidable b] [Decidable c] (hb : b) (hc : c) (k : Option β) : req a (req b (req c k)) = req b (req c (req a k)) := by
 rw [Xbn hb, Xbn hc, Xbn hb, Xbn hc]
theorem Yow {p : Pic} (ok : Xb1 p = true) : p.Dots.size ≤ 65536 := by
 obtain ⟨k1, k2, k3⟩ := Xa5 ok
 have := Xfz k1 k2
 omega
theorem Ynn {p : Pic} {x y : Int} {d : List Int} (hd : Xa8 d = true) (hp : p.Dots.size ≤ maxLen) : Xtp p x y d = Xdu p x y d := by
 obtain ⟨d1, d2⟩ := Xa9 hd
 unfold Xtp Xdu Xtm
 rw [Xbn hp, Xad, Xbn hp]
 have : Xn7 p x y d = Xb2 p x y d := by
  funext v
  unfold Xn7 Xb2
  simp only [show ((d.length : Nat) : Int) = 64 by omega]
  exact Xt5 (fun _ => Ypc (by omega) (by omega) _) fun _ => rfl
 rw [this]
theorem Yng (n : Nat) (x : Int) : ((List.range n).map fun _ => x) = List.replicate n x := by
 apply List.ext_getElem
 ·
  simp
 ·
  intro i h1 h2; simp
theorem Yho (w h : Int) (hw : 1 ≤ w ∧ w ≤ 256) (hh : 1 ≤ h ∧ h ≤ 256) : Xpk w h = some ⟨w, h, strOfNums (List.replicate (w * h).toNat 128)⟩ := by
 have ar := Xfz hw hh
 unfold Xpk
 rw [Xar, Xad, decide_eq_true hw, Xaz, Xar, Xad, decide_eq_true hh, Bool.not_true, Xad, Xay, wkA (e := w * h), rqA]
 rw [Yl0 (f := Xkn w h) (w * h).toNat (fun _ => 128) (List.replicate (w * h).toNat 0) (by simp) ?_ ?_, Xad, Yng]
 ·
  intro i s hi hs _
  unfold Xkn
  simp only [List.length_replicate, Int.toNat_natCast]
  rw [wkA (e := w * h), syA, rqA, rqA, wkA]
  rfl
 ·
  intro s hs
  unfold Xkn
  simp only [List.length_replicate]
  rw [wkA (e := w * h), snA]
theorem Yio (w h : Int) (hw : 1 ≤ w ∧ w ≤ 256) (hh : 1 ≤ h ∧ h ≤ 256) : Xl2 w h = some ⟨w, h, strOfNums (List.replicate (w * h).toNat 128)⟩ := by
 have ar := Xfz hw hh
 unfold Xl2
 rw [Xai, Xad, decide_eq_true hw, Xaz, Xai, Xad, decide_eq_true hh, Bool.not_true, Xad, Xay, wkA (e := w * h), show w * h = (((w * h).toNat : Nat) : Int) by omega, Xl9 _ _ (by omega), Xad, Int.toNat_natCast]
theorem Xkf (n : Int) : Xju n = some (Xnk n) := by
 unfold Xju Xnk
 rw [rqA, Xar, Xad, Xgt, Xad, Ye7]
theorem Ymf {w h : Int} (hw : Xnk w = true) (hh : Xnk h = true) (i : Nat) (hi : (i : Int) < w / 8 * (h / 8)) : (8 ≤ w ∧ w ≤ 64) ∧ (8 ≤ h ∧ h ≤ 64) ∧ 1 ≤ w / 8 ∧ w / 8 ≤ 8 ∧ 1 ≤ h / 8 ∧ h / 8 ≤ 8 ∧ 0 ≤ (i : Int) % (w / 8) * 8 ∧ (i : Int) % (w / 8) * 8 ≤ w - 8 ∧ 0 ≤ (i : Int) / (w / 8) * 8 ∧ (i : Int) / (w / 8) * 8 ≤ h - 8 := by
 unfold Xnk at hw hh
 rw [Bool.and_eq_true, decide_eq_true_eq, decide_eq_true_eq] at hw hh
 rw [Xc7 (by omega)] at hw hh
 have h1 : 1 ≤ w / 8 ∧ w / 8 ≤ 8 := by omega
 have h2 : 1 ≤ h / 8 ∧ h / 8 ≤ 8 := by omega
 have m0 : 0 ≤ (i : Int) % (w / 8) := Int.emod_nonneg _ (by omega)
 have m1 : (i : Int) % (w / 8) < w / 8 := Int.emod_lt_of_pos _ (by omega)
 have d0 : 0 ≤ (i : Int) / (w / 8) := Int.ediv_nonneg (by omega) (by omega)
 have d1 : (i : Int) / (w / 8) < h / 8 := Int.ediv_lt_of_lt_mul (by omega) (by rw [Int.mul_comm]; exact hi)
 exact ⟨hw.2, hh.2, h1.1, h1.2, h2.1, h2.2, by omega, by omega, by omega, by omega⟩
theorem Xh7 {w : Int} (hw : Xnk w = true) : w % 8 = 0 ∧ 8 ≤ w ∧ w ≤ 64 := by
 unfold Xnk at hw
 rw [Bool.and_eq_true, decide_eq_true_eq, decide_eq_true_eq] at hw
 rw [Xc7 (by omega)] at hw
 exact ⟨hw.1, hw.2⟩
theorem Yb6 (l : List Int) : Xdc l = some (Xa8 l) := by
 unfold Xdc Xa8
 by_cases h : l.length = 64
 ·
  rw [Xc5 (by simp only [bne_eq_false_iff_eq]; omega), Xy6 Yi8 l (Xcy l) (by
   intro i hi
   unfold Xcy
   rw [syA, rqA, Xai, Xad, wkA, Int.toNat_natCast]
   rfl) (by unfold Xcy; rw [snA]), Xad, decide_eq_true h, Bool.true_and]
  cases l.all Yi8 <;> rfl
 ·
  rw [Xhj (by simp only [bne_iff_ne, ne_eq]; omega), decide_eq_false h, Bool.false_and]
theorem Ypr (m : Int) (h : 0 ≤ m ∧ m ≤ 3) : ∃ s, Xjr m = some s ∧ Xg0 m = some s := by
 have e1 : Xg0 m = some (((strOfNums (ueL m.toNat)).size : Nat) : Int) := by
  unfold Xg0 Xno
  rw [Xai, Xad, decide_eq_true (by omega), Bool.not_true, Xay]
  have : Xj8 m = some (strOfNums (ueL m.toNat)) := by
   have := Xoi m.toNat (by omega)
   rwa [show ((m.toNat : Nat) : Int) = m by omega] at this
  rw [this, Xad, Xad]
 have e2 : Xjr m = some (((strOfNums (ueL m.toNat)).size : Nat) : Int) := by
  unfold Xjr Xlh
  rw [Xar, Xad, decide_eq_true (by omega), Bool.not_true, Xay]
  have : Xvq m = some (strOfNums (ueL m.toNat)) := by
   have := Yel m.toNat (by omega)
   rwa [show ((m.toNat : Nat) : Int) = m by omega] at this
  rw [this, Xad, Xad]
 exact ⟨_, e2, e1⟩
theorem Xzm {w : List Int} (hw : Xa8 w = true) {e : Xg4} (h : Xpe e) : Xhl w e = Xek w e := by
 have hwl := (Xa9 hw).1
 unfold Xhl Xek
 rw [Xzo h, Xh1 h, Xgn w (by omega), Yb6, hw]
 have : loop (Xg5 w e) (0, -1, 0) = loop (Xcl w e) (0, -1, 0) := by
  refine Xj2 (fun v => 0 ≤ v.2.2 ∧ v.2.2 ≤ 4) ?_ ?_ (by simp)
  ·
   intro ⟨m, c, i⟩ ⟨h1, h2⟩
   simp only at h1 h2
   unfold Xg5 Xcl
   simp only
   by_cases hi : i < 4
   ·
    obtain ⟨g, eg, hg⟩ := Xe4 i ⟨h1, by omega⟩ h
    obtain ⟨s, e1, e2⟩ := Ypr i ⟨h1, by omega⟩
    rw [Xbu (show i ≤ 3 by omega), Xbu hi, Xnw i ⟨h1, by omega⟩ h, eg, Xad, Xad, Xn6 hw hg, Xlf hw hg, Xad, Xad, e1, e2]
   ·
    rw [Xav (show ¬ i ≤ 3 by omega), Xav hi]
  ·
   intro ⟨m, c, i⟩ v' ⟨h1, h2⟩ he
   simp only at h1 h2
   unfold Xcl at he
   rcases Xh0 he with ⟨hb, he⟩ | ⟨_, he⟩
   ·
    have hi := of_decide_eq_true hb
    simp only at hi
    obtain ⟨q, _, he⟩ := Xa3 he
    injection he with he
    injection he with he
    subst he
    simp only
    rw [wkA]; omega
   ·
    cases he
 simp only [Xad, Xaz, Bool.not_true, Xay, this]
theorem Ycj {p : Pic} {w : List Int} {x y r : Int} (ok : Xb1 p = true) (hw : Xa8 w = true) (hr : 0 ≤ r ∧ r ≤ 4) (hx : x.tmod 8 = 0) (hy : y.tmod 8 = 0) (h0 : Xbj p x y = true) : Xc2 p w x y r = Xd7 p w x y r := by
 obtain ⟨k1, k2, k3⟩ := Xa5 ok
 have hwl := (Xa9 hw).1
 have h0' := h0
 unfold Xbj at h0'
 rw [decide_eq_true_eq] at h0'
 unfold Xc2 Xd7
 rw [Xb3, Xad, ok, Xaz, Xgn w (by omega), Xad, hw, Xaz, Xar, Xad, decide_eq_true hr, Xaz, Xk0 ok x y hx hy h0, Xad, Bool.not_true, Xad, Xay]
 rw [Xc0 w hw, Xad, Xaz, Xai, Xad, decide_eq_true hr, Xaz, Xcf ok hx hy h0, Xad, Bool.not_true, Xad, Xay, wkA (e := 0 - r)]
 refine Ylm ?_ fun _ _ => rfl
 refine Xj2 (fun s => -r ≤ s.2.2.2 ∧ s.2.2.2 ≤ r + 1) ?_ ?_ (by simp only; omega)
 ·
  intro s ⟨g1, g2⟩
  unfold Xev Xdf
  refine Xt5 (fun hs => ?_) fun _ => rfl
  have hs := of_decide_eq_true hs
  rw [wkA (e := 0 - r)]
  refine Ylm ?_ fun _ _ => rfl
  refine Xj2 (fun v => -r ≤ v.2.2.2 ∧ v.2.2.2 ≤ r + 1) ?_ ?_ (by simp only; omega)
  ·
   intro v ⟨f1, f2⟩
   unfold Xci Xdg
   refine Xt5 (fun hv => ?_) fun _ => rfl
   have hv := of_decide_eq_true hv
   rw [wkA (e := x + v.2.2.2), wkA (e := y + s.2.2.2), Xwu ok, Xk6 ok, Xad, Xad]
   refine Ylm ?_ fun _ _ => rfl
   refine Xt5 (fun _ => rfl) fun _ => ?_
   have hb := Xdh p (x + v.2.2.2) (y + s.2.2.2)
   rw [Xbo ok _ _ (by omega) (by omega), Xfj ok _ _ (by omega) (by omega), Xad, Xad, Xlf hw hb, Xn6 hw hb, Xad, Xad, Xkk _ (by omega), Xkd _ (by omega), Xad, Xad, Xkk _ (by omega), Xkd _ (by omega), Xad]
  ·
   intro v v' ⟨f1, f2⟩ he
   unfold Xdg at he
   rcases Xh0 he with ⟨hb, he⟩ | ⟨_, he⟩
   ·
    have hi := of_decide_eq_true hb
    obtain ⟨q, _, he⟩ := Xa3 he
    injection he with he
    injection he with he
    subst he
    simp only
    rw [wkA]; omega
   ·
    cases he
 ·
  intro s v' ⟨g1, g2⟩ he
  unfold Xdf at he
  rcases Xh0 he with ⟨hb, he⟩ | ⟨_, he⟩
  ·
   have hi := of_decide_eq_true hb
   obtain ⟨q, _, he⟩ := Xa3 he
   injection he with he
   injection he with he
   subst he
   simp only
   rw [wkA]; omega
  ·
   cases he
def Xr8 (a b : List Int) : List Int := (List.range 64).map fun i => a.getD i 0 - b.getD i 0
theorem Xly (a b : List Int) : (Xr8 a b).length = 64 := by simp [Xr8]
theorem Yf0 (a b : List Int) {i : Nat} (hi : i < 64) : (Xr8 a b).getD i 0 = a.getD i 0 - b.getD i 0 := Xhw _ hi
theorem Xzf {a b : List Int} (ha : Xa8 a = true) (hb : Xa8 b = true) : inB 255 (Xr8 a b) := by
 intro x hx
 obtain ⟨i, hi, rfl⟩ := List.mem_map.1 hx
 rw [List.mem_range] at hi
 have p := (Xa9 ha).2 i hi
 have q := (Xa9 hb).2 i hi
 omega
theorem Yhx {a b : List Int} (ha : Xa8 a = true) (hb : Xa8 b = true) {f : Int × List Int → Option (Lp (Int × List Int) (List Int))} (hf : ∀ v, f v = sel (decide (v.1 < 64)) (req (0 ≤ v.1 ∧ v.1 < a.length) <| req (0 ≤ v.1 ∧ v.1 < b.length) <| req ((v.2.length + ([Xaa .i64 ((a.getD v.1.toNat 0) - (b.getD v.1.toNat 0))]).length) * 8 ≤ 140737488355328 ∧ v.2.length + ([Xaa .i64 ((a.getD v.1.toNat 0) - (b.getD v.1.toNat 0))]).length ≤ maxLen) <| some (.go (Xaa .i64 (v.1 + 1), (v.2 ++ ([Xaa .i64 ((a.getD v.1.toNat 0) - (b.getD v.1.toNat 0))]))))) (some (.done v.2))) : loop f (0, []) = some (Xr8 a b) := by
 have hm : maxLen = 9223372036854775807 := rfl
 obtain ⟨a1, a2⟩ := Xa9 ha
 obtain ⟨b1, b2⟩ := Xa9 hb
 have := You (f := f) 64 (fun i => a.getD i 0 - b.getD i 0) [] (by
  intro i hi
  have x := a2 i hi
  have y := b2 i hi
  rw [hf]
  simp only [Int.toNat_natCast]
  rw [syA, rqA, rqA, Xbn (by simp only [List.length_append, List.length_nil, List.length_map, List.length_range, List.length_singleton]; omega), wkA (e := a.getD i 0 - b.getD i 0), wkA (e := (i : Int) + 1)]
  rfl) (by rw [hf, Xav (by simp)])
 rw [List.nil_append] at this
 exact this
theorem Xos {a b : List Int} (ha : Xa8 a = true) (hb : Xa8 b = true) : Xfk a b = some (Xr8 a b) := by
 have a1 := (Xa9 ha).1
 unfold Xfk
 rw [Yhx ha hb (f := Xhy a b) (fun v => by unfold Xhy; rw [show ((a.length : Nat) : Int) = 64 by omega]), Xad]
theorem Xjk {a b : List Int} (ha : Xa8 a = true) (hb : Xa8 b = true) : Xed a b = some (Xr8 a b) := by
 have a1 := (Xa9 ha).1
 unfold Xed
 rw [Yhx ha hb (f := Xdv a b) (fun v => by unfold Xdv; rw [show ((a.length : Nat) : Int) = 64 by omega]), Xad]
theorem Xqe (l : List Int) (hl : l.length ≤ 1000000) : Xfe l = some (l.all fun x => x == 0) := by
 unfold Xfe
 rw [Xy6 (fun x => x == 0) l (Xb7 l) (by
  intro i hi
  unfold Xb7
  rw [syA, rqA, Int.toNat_natCast, wkA]
  rfl) (by unfold Xb7; rw [snA]), Xad]
 cases l.all (fun x => x == 0) <;> rfl
theorem Yo3 {a b : List Int} (ha : Xa8 a = true) (hb : Xa8 b = true) : (Xlb a b 64 == 0) = ((Xr8 a b).all fun x => x == 0) := by
 have key : ∀ n : Nat, n ≤ 64 → (Xlb a b n = 0 ↔ ∀ i, i < n → a.getD i 0 - b.getD i 0 = 0) := by
  intro n
  induction n with
  | zero => intro _; exact ⟨fun _ i hi => by omega, fun _ => rfl⟩
  | succ n ih =>
   intro hn
   have g := Xib ha hb n (by omega)
   have e : Xlb a b (n + 1) = Xlb a b n + Xwt (a.getD n 0 - b.getD n 0) := rfl
   have ab : 0 ≤ Xwt (a.getD n 0 - b.getD n 0) ∧ (Xwt (a.getD n 0 - b.getD n 0) = 0 ↔ a.getD n 0 - b.getD n 0 = 0) := by unfold Xwt; split <;> omega
   rw [e]
   constructor
   ·
    intro h i hi
    rcases Nat.lt_or_ge i n with h1 | h1
    ·
     exact (ih (by omega)).1 (by omega) i h1
    ·
     have : i = n := by omega
     subst this
     exact ab.2.1 (by omega)
   ·
    intro h
    have h1 := (ih (by omega)).2 fun i hi => h i (by omega)
    have h2 := ab.2.2 (h n (by omega))
    omega
 rw [Bool.eq_iff_iff, beq_iff_eq, List.all_eq_true, key 64 (by omega)]
 constructor
 ·
  intro h x hx
  obtain ⟨i, hi, rfl⟩ := List.mem_map.1 hx
  rw [List.mem_range] at hi
  rw [beq_iff_eq]; exact h i hi
 ·
  intro h i hi
  have := h ((Xr8 a b).getD i 0) (by rw [Xff _ i (by rw [Xly]; exact hi)]; exact List.getElem_mem _)
  rw [beq_iff_eq, Yf0 a b hi] at this
  exact this
theorem Ylj (l : List Int) (hl : l.length = 64) : Xba l 64 0 0 = some (l.all fun x => x == 0) := by
 rw [Xiw l 64 0 0 (by omega), show ((l.length : Int) == 64) = true by rw [beq_iff_eq]; omega, Bool.and_true]
 congr 2
 funext x
 rw [Bool.eq_iff_iff, decide_eq_true_eq, beq_iff_eq]; omega
structure Yrk (now ref : Pic) (w : List Int) (x y : Int) (c : Cond) (r : Int) : Prop where
 ok : Xb1 now = true
 hx : x.tmod 8 = 0
 hy : y.tmod 8 = 0
 h0 : Xbj now x y = true
 hw : Xa8 w = true
 hc : Xin c = true
 hr : 0 ≤ r ∧ r ≤ 4
 hk : c.Key = false → Xb1 ref = true ∧ ref.Wide = now.Wide ∧ ref.High = now.High
inductive Xok (now ref : Pic) (w : List Int) (x y : Int) (c : Cond) (r : Int) : Xan → Prop
 | same (hK : c.Key = false) (h : ∀ i : Nat, i < 64 → w.getD i 0 = (Xmg ref x y 64).getD i 0) : Xok now ref w x y c r ⟨0, 0, 0, 0, []⟩
 | still (hK : c.Key = false) (l : List Int) (h : Xb6 (Xr8 w (Xmg ref x y 64)) c = some (l, true)) (hl : Ych l = true) (hz : ∀ i : Nat, i < 64 → l.getD i 0 = 0) : Xok now ref w x y c r ⟨0, 0, 0, 0, []⟩
 | move (hK : c.Key = false) (dx dy : Int) (hdx : -r ≤ dx ∧ dx ≤ r) (hdy : -r ≤ dy ∧ dy ≤ r) (hh : Xbj ref (x + dx) (y + dy) = true) (l : List Int) (h : Xb6 (Xr8 w (Xmg ref (x + dx) (y + dy) 64)) c = some (l, true)) (hl : Ych l = true) (hn : ¬ ∀ i : Nat, i < 64 → w.getD i 0 = (Xmg ref x y 64).getD i 0) : Xok now ref w x y c r ⟨1, 0, dx, dy, l⟩
 | guess (e : Xg4) (he : Xea now x y = some (e, true)) (hp : Xpe e) (m : Int) (hm : 0 ≤ m ∧ m ≤ 3) (g : List Int) (hg : Xcs m e = some g) (hd : Xa8 g = true) (l : List Int) (h : Xb6 (Xr8 w g) c = some (l, true)) (hl : Ych l = true) (hn : c.Key = false → ¬ ∀ i : Nat, i < 64 → w.getD i 0 = (Xmg ref x y 64).getD i 0) : Xok now ref w x y c r ⟨2, m, 0, 0, l⟩
theorem Xok.ok {now ref : Pic} {w : List Int} {x y : Int} {c : Cond} {r : Int} {q : Xan} (hr : 0 ≤ r ∧ r ≤ 4) (h : Xok now ref w x y c r q) : Xrj q = true ∧ Yd9 q c = true ∧ q.Levels.length ≤ 64 := by
 cases h with
 | same hK _ => exact ⟨rfl, by unfold Yd9; rw [hK]; rfl, by simp⟩
 | still hK l _ _ _ => exact ⟨rfl, by unfold Yd9; rw [hK]; rfl, by simp⟩
 | move hK dx dy hdx hdy hh l h hl hn => exact ⟨Yiq (by omega) (by omega) hl, by unfold Yd9; rw [hK]; rfl, by simp only; have := (Xvx hl).1; omega⟩
 | guess e he hp m hm g hg hd l h hl hn => exact ⟨Xwm hm hl, by unfold Yd9; simp, by simp only; have := (Xvx hl).1; omega⟩
theorem Ylf {l : List Int} (hl : l.length = 64) : (l.all fun x => x == 0) = true ↔ ∀ i : Nat, i < 64 → l.getD i 0 = 0 := by
 rw [List.all_eq_true]
 constructor
 ·
  intro h i hi
  have := h (l.getD i 0) (by rw [Xff l i (by omega)]; exact List.getElem_mem _)
  rwa [beq_iff_eq] at this
 ·
  intro h x hx
  obtain ⟨i, hi, rfl⟩ := List.getElem_of_mem hx
  rw [beq_iff_eq, ← Xff l i hi 0]
  exact h i (by omega)
theorem Yez {p : Pic} {w : List Int} {x y r : Int} (ok : Xb1 p = true) (hw : Xa8 w = true) (hr : 0 ≤ r ∧ r ≤ 4) (hx : x.tmod 8 = 0) (hy : y.tmod 8 = 0) (h0 : Xbj p x y = true) :
  ∃ b, Xc2 p w x y r = some b ∧ Xd7 p w x y r = some b ∧ (-r ≤ b.1 ∧ b.1 ≤ r) ∧ (-r ≤ b.2.1 ∧ b.2.1 ≤ r) ∧ Xbj p (x + b.1) (y + b.2.1) = true := by
 obtain ⟨b, e, h1, h2, h3, _⟩ := Xw6 ok hw hr hx hy h0
 exact ⟨b, e, by rw [← Ycj ok hw hr hx hy h0]; exact e, h1, h2, h3⟩
theorem Xny {now ref : Pic} {w : List Int} {x y : Int} {c : Cond} {r : Int} (H : Yrk now ref w x y c r) : ∃ q d, Xeh now ref w x y c r = some (q, d, true) ∧ Xco now ref w x y c r = some (q, d, true) ∧ Xok now ref w x y c r q ∧ Xdk now ref 0 0 c x y q = some (d, true) ∧ Xa8 d = true := by
 obtain ⟨ok, hx, hy, h0, hw, hc, hr, hk⟩ := H
 have hwl := (Xa9 hw).1
 obtain ⟨e, ee, he⟩ := Xi9 ok hx hy h0
 obtain ⟨m, co, eb, hm⟩ := Xnl hw he
 obtain ⟨g, eg, hg⟩ := Xe4 m hm he
 obtain ⟨l, el, hl⟩ := Xh2 (Xr8 w g) c hc (Xly w g) (Xzf hw hg)
 have hh := h0
 unfold Xbj at hh
 rw [decide_eq_true_eq] at hh
 obtain ⟨k1, k2, k3⟩ := Xa5 ok
 -- the square
 have main : ∃ q, Xok now ref w x y c r q ∧ Xeq now ref w x y c r = some q ∧
   (sel (!c.Key) (bnd (Xbh ref x y) fun q15 => bnd (Xmj w q15) fun q16 => sel (q16 == 0) (some ((0 : Int), (0 : Int), (0 : Int), (0 : Int), ([] : List Int))) (bnd (Xc2 ref w x y r) fun q17 => sel (decide (q17.2.2 ≤ co)) (bnd (Xbh ref (Xaa .i64 (x + q17.1)) (Xaa .i64 (y + q17.2.1))) fun q18 => bnd (Xfk w q18) fun q19 => bnd (Xfi q19 c) fun q20 =>
    bnd (sel (q17.1 == 0) (sel (q17.2.1 == 0) (bnd (Xba q20.1 64 0 0) fun q22 => some q22) (some false)) (some false)) fun v21 => sel v21 (some (0, 0, 0, 0, [])) (some (1, 0, q17.1, q17.2.1, q20.1))) (some (2, m, 0, 0, l)))) (some (2, m, 0, 0, l))) = some (q.Kind, q.Mode, q.Dx, q.Dy, q.Levels) := by
  unfold Xeq
  cases hK : c.Key with
  | true =>
   refine ⟨⟨2, m, 0, 0, l⟩, .guess e ee he m hm g eg hg l el hl (fun h => by rw [hK] at h; cases h), ?_, rfl⟩
   rw [Xaz, Xad, Xay, ee, Xad, eb, Xad, Bool.not_true]
   simp only [Ylu, Xay, eg, Xad, Xjk hw hg, el]
  | false =>
   obtain ⟨rok, rw', rh⟩ := hk hK
   have hb := Xdh ref x y
   have r0 : Xbj ref x y = true := by unfold Xbj; rw [decide_eq_true_eq, rw', rh]; exact hh
   have gz := Yo3 hw hb
   have lz := Ylf (Xly w (Xmg ref x y 64))
   rw [Bool.not_false, Xaz, Xay, Xfj rok x y (by omega) (by omega), Xad, Xn6 hw hb, Xad, Xbo rok x y (by omega) (by omega), Xad, Xjk hw hb, Xad, Xqe _ (by rw [Xly]; omega), Xad, Xad, gz]
   cases hz : ((Xr8 w (Xmg ref x y 64)).all fun x => x == 0) with
   | true =>
    refine ⟨⟨0, 0, 0, 0, []⟩, .same hK fun i hi => ?_, rfl, rfl⟩
    have := lz.1 hz i hi
    rw [Yf0 _ _ hi] at this; omega
   | false =>
    have hne : ¬ ∀ i : Nat, i < 64 → w.getD i 0 = (Xmg ref x y 64).getD i 0 := fun hall => by
     have := lz.2 fun i hi => by rw [Yf0 _ _ hi, hall i hi]; omega
     rw [hz] at this; cases this
    obtain ⟨b, bi, bs, b1, b2, b3⟩ := Yez rok hw hr hx hy r0
    rw [Xay, Xay, ee, Xad, eb, Xad, bi, Xad]
    simp only [Ylu, Xaz, bs, Xad]
    by_cases hco : b.2.2 ≤ co
    ·
     have hb2 := Xdh ref (x + b.1) (y + b.2.1)
     obtain ⟨l2, el2, hl2⟩ := Xh2 (Xr8 w (Xmg ref (x + b.1) (y + b.2.1) 64)) c hc (Xly _ _) (Xzf hw hb2)
     have hl2n := (Xvx hl2).1
     rw [Xbu hco, Xbu hco, wkA (e := x + b.1), wkA (e := y + b.2.1), Xbo rok _ _ (by omega) (by omega), Xfj rok _ _ (by omega) (by omega), Xad, Xad, Xos hw hb2, Xjk hw hb2, Xad, Xad, Xqu _ c hc (Xly _ _) (Xzf hw hb2), el2, Xad, Xad, Ylj l2 hl2n, Xad, Xqe l2 (by omega), Xad]
     simp only [Xgt, Xad]
     cases hst : (b.1 == 0 && (b.2.1 == 0 && l2.all fun x => x == 0)) with
     | true =>
      simp only [Bool.and_eq_true, beq_iff_eq] at hst
      obtain ⟨z1, z2, z3⟩ := hst
      rw [z1, z2, Int.add_zero, Int.add_zero] at el2
      exact ⟨⟨0, 0, 0, 0, []⟩, .still hK l2 el2 hl2 ((Ylf hl2n).1 z3), rfl, rfl⟩
     | false => exact ⟨⟨1, 0, b.1, b.2.1, l2⟩, .move hK b.1 b.2.1 b1 b2 b3 l2 el2 hl2 hne, rfl, rfl⟩
    ·
     rw [Xav hco, Xav hco]
     refine ⟨⟨2, m, 0, 0, l⟩, .guess e ee he m hm g eg hg l el hl (fun _ => hne), ?_, rfl⟩
     simp only [eg, Xad, Xjk hw hg, el]
 obtain ⟨q, hq, es, ei⟩ := main
 obtain ⟨q1, q2, q3⟩ := hq.ok hr
 obtain ⟨d, di, ds, hd⟩ := Xpb (now := now) (ref := ref) (l := 0) (t := 0) (x := x) (y := y) (c := c) (q := q) ⟨ok, hx, hy, h0, by omega, by omega, hc, by omega⟩ q1 q2 (fun h => (hk h).1)
 refine ⟨q, d, ?_, ?_, hq, di, hd⟩
 ·
  unfold Xeh
  have hl7 : (sel c.Key (some false) (bnd (Xcz ref) fun q8 => sel q8 (sel (ref.Wide != now.Wide) (some true) (some (ref.High != now.High))) (some true))) = some false := by
   cases hK : c.Key with
   | true => rfl
   | false =>
    obtain ⟨a1, a2, a3⟩ := hk hK
    rw [Xay, Xb3, Xad, a1, a2, a3, Xaz, bne_self_eq_false, Xay, bne_self_eq_false]
  rw [Xb3, Xad, ok, Xaz, Xps ok hx hy h0, Xad, Xaz, Xgn w (by omega), Xad, hw, Xaz, Xf0, Xad, hc, Xaz, Xar, Xad, decide_eq_true hr, Bool.not_true, Xad, Xay, hl7, Xad, Xay, Xso ok hx hy h0, ee, Xad, Xzm hw he, eb, Xad, Xnw m hm he, eg, Xad, Xos hw hg, Xad, Xqu _ c hc (Xly _ _) (Xzf hw hg), el, Xad]
  simp only
  rw [ei, Xad]
  simp only
  rw [show (⟨q.Kind, q.Mode, q.Dx, q.Dy, q.Levels⟩ : Xan) = q from rfl, di, Xad]
  rfl
 ·
  unfold Xco
  have hl7 : (sel c.Key (some false) (bnd (Xee now ref) fun q6 => some (!q6))) = some false := by
   cases hK : c.Key with
   | true => rfl
   | false =>
    obtain ⟨a1, a2, a3⟩ := hk hK
    rw [Xay, Xg3, Xad, Yf2 ok a1 a2 a3]; rfl
  rw [Xcf ok hx hy h0, Xad, Xaz, Xc0 w hw, Xad, Xaz, Xbp, Xad, hc, Xaz, Xai, Xad, decide_eq_true hr, Xaz, hl7, Xad, Xay, es, Xad, ds, Xad]
theorem Xtz {W x y : Int} (hx : 0 ≤ x ∧ x < W) : (y * W + x) / W = y ∧ (y * W + x) % W = x := by
 have hW : 0 < W := by omega
 constructor
 ·
  rw [Int.add_comm, Int.add_mul_ediv_right _ _ (by omega), Int.ediv_eq_zero_of_lt hx.1 hx.2, Int.zero_add]
 ·
  rw [Int.add_comm, Int.add_mul_emod_self_right, Int.emod_eq_of_lt hx.1 hx.2]
theorem Xt0 {W H x y : Int} (hx : 0 ≤ x ∧ x < W) (hy : 0 ≤ y ∧ y < H) : 0 ≤ y * W + x ∧ y * W + x < W * H := by
 have a : 0 ≤ y * W := Int.mul_nonneg hy.1 (by omega)
 have b : y * W ≤ (H - 1) * W := Int.mul_le_mul_of_nonneg_right (by omega) (by omega)
 have c : (H - 1) * W = W * H - W := by rw [Int.sub_mul, Int.one_mul, Int.mul_comm]
 omega
theorem Yef {n m : Int} (h : 0 ≤ n ∧ n ≤ m) : Xcg n 0 m = n := by
 unfold Xcg
 repeat' split
 all_goals omega
theorem Xza {p : Pic} {x y : Int} (hx : 0 ≤ x ∧ x < p.Wide) (hy : 0 ≤ y ∧ y < p.High) : Xnz p x y = Yi5 p.Dots (y * p.Wide + x) := by
 unfold Xnz
 rw [Yef (by omega), Yef (by omega)]
theorem Xr9 (s : ByteArray) (k : Nat) (hk : k < s.size) : (Xfw s).getD k 0 = Yi5 s k := by
 have := Ypy (Xfw s) (by intro x hx; obtain ⟨b, _, rfl⟩ := List.mem_map.1 hx; have := b.toNat_lt; omega) k (by rw [Xc4]; exact hk)
 rw [Xwo] at this
 exact this.symm
theorem Yln (s : ByteArray) : Ymr (Xfw s) := fun x hx => by
 obtain ⟨b, _, rfl⟩ := List.mem_map.1 hx
 have := b.toNat_lt
 omega
theorem Yms {l : List Int} (h : Ymr l) (i : Nat) {y : Int} (hy : 0 ≤ y ∧ y ≤ 255) : Ymr (l.set i y) := fun x hx => by
 rcases List.mem_or_eq_of_mem_set hx with hx | hx
 ·
  exact h x hx
 ·
  rw [hx]; exact hy
theorem Yrw {p q : Pic} (hp : Xb1 p = true) (hq : Xb1 q = true) (hw : p.Wide = q.Wide) (hh : p.High = q.High) (h : ∀ x y : Int, 0 ≤ x ∧ x < p.Wide → 0 ≤ y ∧ y < p.High → Xnz p x y = Xnz q x y) : p = q := by
 obtain ⟨p1, p2, p3⟩ := Xa5 hp
 obtain ⟨q1, q2, q3⟩ := Xa5 hq
 have hd : p.Dots = q.Dots := by
  rw [← Xwo p.Dots, ← Xwo q.Dots]
  congr 1
  have hsz : p.Dots.size = q.Dots.size := by
   have : (p.Dots.size : Int) = q.Dots.size := by rw [p3, q3, hw, hh]
   omega
  refine Xvw (n := p.Dots.size) (Xc4 _) ((Xc4 _).trans hsz.symm) fun k hk => ?_
  have hkW : (k : Int) < p.Wide * p.High := by omega
  have m0 := Int.emod_nonneg (k : Int) (show p.Wide ≠ 0 by omega)
  have m1 := Int.emod_lt_of_pos (k : Int) (show 0 < p.Wide by omega)
  have d0 : 0 ≤ (k : Int) / p.Wide := Int.ediv_nonneg (by omega) (by omega)
  have d1 : (k : Int) / p.Wide < p.High := Int.ediv_lt_of_lt_mul (by omega) (by rw [Int.mul_comm]; exact hkW)
  have e := h ((k : Int) % p.Wide) ((k : Int) / p.Wide) ⟨m0, m1⟩ ⟨d0, d1⟩
  rw [Xza ⟨m0, m1⟩ ⟨d0, d1⟩, Xza (by rw [← hw]; exact ⟨m0, m1⟩) (by rw [← hh]; exact ⟨d0, d1⟩), ← hw, Int.ediv_mul_add_emod] at e
  rw [Xr9 _ k hk, Xr9 _ k (by omega)]
  exact e
 cases p; cases q
 simp only at hw hh hd
 rw [hw, hh, hd]
def Ym1 (x y X Y : Int) : Bool := decide (x ≤ X ∧ X < x + 8 ∧ y ≤ Y ∧ Y < y + 8)
theorem Ypa {p : Pic} {x y : Int} {d : List Int} (ok : Xb1 p = true) (h0 : Xbj p x y = true) (hd : Xa8 d = true) : ∃ p', Xdu p x y d = some p' ∧ Xb1 p' = true ∧ p'.Wide = p.Wide ∧ p'.High = p.High ∧ ∀ X Y : Int, 0 ≤ X ∧ X < p.Wide → 0 ≤ Y ∧ Y < p.High → Xnz p' X Y = if Ym1 x y X Y = true then d.getD ((Y - y) * 8 + (X - x)).toNat 0 else Xnz p X Y := by
 obtain ⟨k1, k2, k3⟩ := Xa5 ok
 have ar := Xfz k1 k2
 have hm : maxLen = 9223372036854775807 := rfl
 obtain ⟨d1, d2⟩ := Xa9 hd
 have h0' := h0
 unfold Xbj at h0'
 rw [decide_eq_true_eq] at h0'
 have hn := Xc4 p.Dots
 unfold Xdu
 rw [rqA]
 obtain ⟨o, e, o1, o2, o3⟩ := Xkl (f := Xb2 p x y d) 64 (fun i s => s.length = p.Dots.size ∧ Ymr s ∧ ∀ X Y : Int, 0 ≤ X ∧ X < p.Wide → 0 ≤ Y ∧ Y < p.High → s.getD (Y * p.Wide + X).toNat 0 = if Ym1 x y X Y = true ∧ ((Y - y) * 8 + (X - x)).toNat < i then d.getD ((Y - y) * 8 + (X - x)).toNat 0 else (Xfw p.Dots).getD (Y * p.Wide + X).toNat 0) (by
  intro i s hi ⟨g1, g2, g3⟩
  have di := d2 i hi
  have hxx : 0 ≤ x + (i : Int) % 8 ∧ x + (i : Int) % 8 < p.Wide := by omega
  have hyy : 0 ≤ y + (i : Int) / 8 ∧ y + (i : Int) / 8 < p.High := by omega
  have pin := Xt0 hxx hyy
  have b1 : 0 ≤ (y + (i : Int) / 8) * p.Wide := Int.mul_nonneg (by omega) (by omega)
  have b2 : (y + (i : Int) / 8) * p.Wide ≤ (p.High - 1) * p.Wide := Int.mul_le_mul_of_nonneg_right (by omega) (by omega)
  have b3 : (p.High - 1) * p.Wide = p.Wide * p.High - p.Wide := by rw [Int.sub_mul, Int.one_mul, Int.mul_comm]
  unfold Xb2
  simp only
  rw [syA, rqA, rqA, rqA, Xcr (by omega), Xc7 (by omega), wkA (e := (i : Int) / 8), wkA (e := y + (i : Int) / 8), wkA (e := (y + (i : Int) / 8) * p.Wide), wkA (e := (y + (i : Int) / 8) * p.Wide + x), wkA (e := (y + (i : Int) / 8) * p.Wide + x + (i : Int) % 8), rqA, rqA, wkA (e := (i : Int) + 1), Int.toNat_natCast, w8 di.1 di.2]
  refine ⟨_, rfl, by rw [List.length_set]; exact g1, Yms g2 _ di, fun X Y hX hY => ?_⟩
  have pXY := Xt0 hX hY
  rw [Xeg _ _ _ _ (by omega)]
  by_cases heq : ((y + (i : Int) / 8) * p.Wide + x + (i : Int) % 8).toNat = (Y * p.Wide + X).toNat
  ·
   rw [if_pos heq]
   have heq' : (y + (i : Int) / 8) * p.Wide + (x + (i : Int) % 8) = Y * p.Wide + X := by omega
   have q1 := Xtz (y := y + (i : Int) / 8) hxx
   have q2 := Xtz (y := Y) hX
   rw [heq'] at q1
   have eY : Y = y + (i : Int) / 8 := q2.1.symm.trans q1.1
   have eX : X = x + (i : Int) % 8 := q2.2.symm.trans q1.2
   have hin : Ym1 x y X Y = true := by unfold Ym1; rw [decide_eq_true_eq]; omega
   have hpl : ((Y - y) * 8 + (X - x)).toNat = i := by omega
   rw [if_pos ⟨hin, by omega⟩, hpl]
  ·
   rw [if_neg heq, g3 X Y hX hY]
   by_cases hin : Ym1 x y X Y = true
   ·
    have hin' := hin
    unfold Ym1 at hin'
    rw [decide_eq_true_eq] at hin'
    by_cases hlt : ((Y - y) * 8 + (X - x)).toNat < i
    ·
     rw [if_pos ⟨hin, hlt⟩, if_pos ⟨hin, by omega⟩]
    ·
     have hne : ((Y - y) * 8 + (X - x)).toNat ≠ i := fun h => heq (by
      have eY : Y = y + (i : Int) / 8 := by omega
      have eX : X = x + (i : Int) % 8 := by omega
      rw [eY, eX]; congr 1; omega)
     rw [if_neg (fun h => hlt h.2), if_neg (fun h => by omega)]
   ·
    rw [if_neg (fun h => hin h.1), if_neg (fun h => hin h.1)]) (fun s _ => by unfold Xb2; rw [Xav (by simp)]) (Xfw p.Dots) ⟨hn, Yln _, fun X Y hX hY => by rw [if_neg (fun h => by omega)]⟩
 refine ⟨_, (Xkv e).trans rfl, Xzh k1 k2 (by simp only; rw [strOfNums_size]; omega), rfl, rfl, fun X Y hX hY => ?_⟩
 have pXY := Xt0 hX hY
 rw [Xza (p := ⟨p.Wide, p.High, strOfNums o⟩) hX hY, Xza hX hY]
 simp only
 have e1 : Yi5 (strOfNums o) (Y * p.Wide + X) = o.getD (Y * p.Wide + X).toNat 0 := by
  have := Ypy o o2 (Y * p.Wide + X).toNat (by omega)
  rwa [show (((Y * p.Wide + X).toNat : Nat) : Int) = Y * p.Wide + X by omega] at this
 have e2 : Yi5 p.Dots (Y * p.Wide + X) = (Xfw p.Dots).getD (Y * p.Wide + X).toNat 0 := by
  rw [Xr9 _ _ (by omega), show (((Y * p.Wide + X).toNat : Nat) : Int) = Y * p.Wide + X by omega]
 rw [e1, e2, o3 X Y hX hY]
 by_cases hin : Ym1 x y X Y = true
 ·
  have hin' := hin
  unfold Ym1 at hin'
  rw [decide_eq_true_eq] at hin'
  rw [if_pos ⟨hin, by omega⟩, if_pos hin]
 ·
  rw [if_neg (fun h => hin h.1), if_neg hin]
def tX (W : Int) (i : Nat) : Int := (i : Int) % (W / 8) * 8
def tY (W : Int) (i : Nat) : Int := (i : Int) / (W / 8) * 8
structure Yoh (src ref : Pic) (c : Cond) (r : Int) : Prop where
 ok : Xb1 src = true
 hw : Xnk src.Wide = true
 hh : Xnk src.High = true
 hc : Xin c = true
 hr : 0 ≤ r ∧ r ≤ 4
 hk : c.Key = false → Xb1 ref = true ∧ ref.Wide = src.Wide ∧ ref.High = src.High
inductive Xlm (src ref : Pic) (c : Cond) (r : Int) : Nat → List Xan → Pic → Prop
 | zero : Xlm src ref c r 0 [] ⟨src.Wide, src.High, strOfNums (List.replicate (src.Wide * src.High).toNat 128)⟩
 | succ {n : Nat} {l : List Xan} {now : Pic} (h : Xlm src ref c r n l now) (hn : (n : Int) < src.Wide / 8 * (src.High / 8)) (q : Xan) (d : List Int) (now' : Pic)
   (hi : Xeh now ref (Xmg src (tX src.Wide n) (tY src.Wide n) 64) (tX src.Wide n) (tY src.Wide n) c r = some (q, d, true)) (hs : Xco now ref (Xmg src (tX src.Wide n) (tY src.Wide n) 64) (tX src.Wide n) (tY src.Wide n) c r = some (q, d, true)) (hq : Xok now ref (Xmg src (tX src.Wide n) (tY src.Wide n) 64) (tX src.Wide n) (tY src.Wide n) c r q)
   (hd : Xdk now ref 0 0 c (tX src.Wide n) (tY src.Wide n) q = some (d, true)) (hp : Xdu now (tX src.Wide n) (tY src.Wide n) d = some now') : Xlm src ref c r (n + 1) (l ++ [q]) now'
theorem Yqp {w h : Int} (hw : 1 ≤ w ∧ w ≤ 256) (hh : 1 ≤ h ∧ h ≤ 256) : Xb1 ⟨w, h, strOfNums (List.replicate (w * h).toNat 128)⟩ = true := by
 have ar := Xfz hw hh
 refine Xzh hw hh ?_
 simp only
 rw [strOfNums_size, List.length_replicate]; omega
theorem Yjy {src ref now : Pic} {c : Cond} {r : Int} (H : Yoh src ref c r) {n : Nat} (hn : (n : Int) < src.Wide / 8 * (src.High / 8)) (ok : Xb1 now = true) (hw : now.Wide = src.Wide) (hh : now.High = src.High) : Yrk now ref (Xmg src (tX src.Wide n) (tY src.Wide n) 64) (tX src.Wide n) (tY src.Wide n) c r := by
 obtain ⟨p1, p2, p3, p4, p5, p6, p7, p8, p9, p10⟩ := Ymf H.hw H.hh n hn
 refine ⟨ok, by unfold tX; rw [Xc7 p7]; omega, by unfold tY; rw [Xc7 p9]; omega, by unfold Xbj tX tY; rw [decide_eq_true_eq, hw, hh]; exact ⟨p7, p8, p9, p10⟩, Xdh _ _ _, H.hc, H.hr, fun hK => ?_⟩
 obtain ⟨a, b, c⟩ := H.hk hK
 exact ⟨a, by rw [b, hw], by rw [c, hh]⟩
theorem Xlm.pic {src ref : Pic} {c : Cond} {r : Int} (H : Yoh src ref c r) {n : Nat} {l : List Xan} {now : Pic} (h : Xlm src ref c r n l now) : Xb1 now = true ∧ now.Wide = src.Wide ∧ now.High = src.High ∧ l.length = n ∧ (∀ q ∈ l, Xrj q = true ∧ Yd9 q c = true ∧ q.Levels.length ≤ 64) := by
 induction h with
 | zero =>
  obtain ⟨k1, k2, k3⟩ := Xa5 H.ok
  exact ⟨Yqp k1 k2, rfl, rfl, rfl, fun q hq => by simp at hq⟩
 | succ h hn q d now' hi hs hq hd hp ih =>
  obtain ⟨ok, w, hh, hl, hall⟩ := ih
  have SF := Yjy H hn ok w hh
  obtain ⟨q2, d2, e2, _, _, _, hd64⟩ := Xny SF
  rw [hi] at e2
  injection e2 with e2
  injection e2 with e2 e3
  injection e3 with e3 _
  subst e2; subst e3
  obtain ⟨p', ep, p1, p2, p3⟩ := Xm1 ok SF.h0 hd64
  rw [hp] at ep
  injection ep with ep
  subst ep
  refine ⟨p1, by rw [p2, w], by rw [p3, hh], by rw [List.length_append, hl]; rfl, fun x hx => ?_⟩
  rcases List.mem_append.1 hx with hx | hx
  ·
   exact hall x hx
  ·
   rw [List.mem_singleton.1 hx]; exact hq.ok H.hr
theorem Xlm.step {src ref : Pic} {c : Cond} {r : Int} (H : Yoh src ref c r) {n : Nat} {l : List Xan} {now : Pic} (h : Xlm src ref c r n l now) (hn : (n : Int) < src.Wide / 8 * (src.High / 8)) : ∃ q d now', Xeh now ref (Xmg src (tX src.Wide n) (tY src.Wide n) 64) (tX src.Wide n) (tY src.Wide n) c r = some (q, d, true) ∧ Xco now ref (Xmg src (tX src.Wide n) (tY src.Wide n) 64) (tX src.Wide n) (tY src.Wide n) c r = some (q, d, true) ∧ Xa8 d = true ∧ Xdu now (tX src.Wide n) (tY src.Wide n) d = some now' ∧ Xlm src ref c r (n + 1) (l ++ [q]) now' := by
 obtain ⟨ok, w, hh, hl, _⟩ := h.pic H
 have SF := Yjy H hn ok w hh
 obtain ⟨q, d, e1, e2, hq, ed, hd64⟩ := Xny SF
 obtain ⟨p', ep, p1, p2, p3⟩ := Xm1 ok SF.h0 hd64
 exact ⟨q, d, p', e1, e2, hd64, ep, .succ h hn q d p' e1 e2 hq ed ep⟩
theorem Yr5 {W : Int} (hW : Xnk W = true) (a b : Nat) (hb : (b : Int) < W / 8) : tX W ((W / 8).toNat * a + b) = 8 * b ∧ tY W ((W / 8).toNat * a + b) = 8 * a := by
 have s := Xh7 hW
 have e : (((W / 8).toNat * a + b : Nat) : Int) = (a : Int) * (W / 8) + b := by
  rw [Int.natCast_add, Int.natCast_mul, show (((W / 8).toNat : Nat) : Int) = W / 8 by omega, Int.mul_comm]
 have d := Xtz (W := W / 8) (x := b) (y := a) ⟨by omega, hb⟩
 unfold tX tY
 rw [e, d.1, d.2]
 omega
theorem Yp8 {W H : Int} (hW : Xnk W = true) (a b : Nat) (hb : (b : Int) < W / 8) (ha : (a : Int) < H / 8) : (((W / 8).toNat * a + b : Nat) : Int) < W / 8 * (H / 8) := by
 have s := Xh7 hW
 have p := Xt0 (W := W / 8) (H := H / 8) (x := b) (y := a) ⟨by omega, hb⟩ ⟨by omega, ha⟩
 rw [Int.natCast_add, Int.natCast_mul, show (((W / 8).toNat : Nat) : Int) = W / 8 by omega, Int.mul_comm (W / 8)]
 exact p.2
theorem Xlm.dots {src ref : Pic} {c : Cond} {r : Int} (H : Yoh src ref c r) (P : Int → Int → Int → Prop)
  (hP : ∀ (n : Nat) (now : Pic) (q : Xan) (d : List Int), (n : Int) < src.Wide / 8 * (src.High / 8) → Yrk now ref (Xmg src (tX src.Wide n) (tY src.Wide n) 64) (tX src.Wide n) (tY src.Wide n) c r → Xok now ref (Xmg src (tX src.Wide n) (tY src.Wide n) 64) (tX src.Wide n) (tY src.Wide n) c r q → Xbq now ref 0 0 c (tX src.Wide n) (tY src.Wide n) q = some (d, true) → ∀ i : Nat, i < 64 → P (tX src.Wide n + ((i % 8 : Nat) : Int)) (tY src.Wide n + ((i / 8 : Nat) : Int)) (d.getD i 0))
  {n : Nat} {l : List Xan} {now : Pic} (h : Xlm src ref c r n l now) : ∀ X Y : Int, 0 ≤ X ∧ X < src.Wide → 0 ≤ Y ∧ Y < src.High → Y / 8 * (src.Wide / 8) + X / 8 < n → P X Y (Xnz now X Y) := by
 induction h with
 | zero =>
  intro X Y hX hY hlt
  have := Int.mul_nonneg (show 0 ≤ Y / 8 by omega) (show 0 ≤ src.Wide / 8 by omega)
  omega
 | succ h hn q d now' hi hs hq hd hp ih =>
  rename_i n0 l0 now0
  obtain ⟨ok, w, hh, hl, hall⟩ := h.pic H
  have SF := Yjy H hn ok w hh
  obtain ⟨q2, d2, e2, _, _, _, hd64⟩ := Xny SF
  rw [hi] at e2
  injection e2 with e2
  injection e2 with e2 e3
  injection e3 with e3 _
  subst e2; subst e3
  obtain ⟨p', ep, p1, p2, p3, p4⟩ := Ypa ok SF.h0 hd64
  rw [hp] at ep
  injection ep with ep
  subst ep
  obtain ⟨q1, q2', q3⟩ := hq.ok H.hr
  obtain ⟨d', ei', es', _⟩ := Xpb (now := now0) (ref := ref) (l := 0) (t := 0) (x := tX src.Wide n0) (y := tY src.Wide n0) (c := c) (q := q) ⟨ok, SF.hx, SF.hy, SF.h0, by omega, by omega, H.hc, by omega⟩ q1 q2' (fun hK => (H.hk hK).1)
  rw [hd] at ei'
  injection ei' with ei'
  injection ei' with ei' _
  subst ei'
  have hPd := hP n0 now0 q d hn SF hq es'
  intro X Y hX hY hlt
  rw [p4 X Y (by rw [w]; exact hX) (by rw [hh]; exact hY)]
  have sw := Xh7 H.hw
  have dv := Xtz (W := src.Wide / 8) (x := X / 8) (y := Y / 8) ⟨by omega, by omega⟩
  by_cases hin : Ym1 (tX src.Wide n0) (tY src.Wide n0) X Y = true
  ·
   rw [if_pos hin]
   unfold Ym1 at hin
   rw [decide_eq_true_eq] at hin
   have := hPd ((Y - tY src.Wide n0) * 8 + (X - tX src.Wide n0)).toNat (by omega)
   have e1 : tX src.Wide n0 + (((((Y - tY src.Wide n0) * 8 + (X - tX src.Wide n0)).toNat % 8 : Nat)) : Int) = X := by omega
   have e2 : tY src.Wide n0 + (((((Y - tY src.Wide n0) * 8 + (X - tX src.Wide n0)).toNat / 8 : Nat)) : Int) = Y := by omega
   rw [e1, e2] at this
   exact this
  ·
   rw [if_neg hin]
   refine ih X Y hX hY ?_
   have hne : Y / 8 * (src.Wide / 8) + X / 8 ≠ n0 := fun e => hin (by
    rw [e] at dv
    unfold Ym1 tX tY
    rw [dv.1, dv.2, decide_eq_true_eq]
    omega)
   omega
theorem Xlm.all {src ref : Pic} {c : Cond} {r : Int} (H : Yoh src ref c r) (P : Int → Int → Int → Prop)
  (hP : ∀ (n : Nat) (now : Pic) (q : Xan) (d : List Int), (n : Int) < src.Wide / 8 * (src.High / 8) → Yrk now ref (Xmg src (tX src.Wide n) (tY src.Wide n) 64) (tX src.Wide n) (tY src.Wide n) c r → Xok now ref (Xmg src (tX src.Wide n) (tY src.Wide n) 64) (tX src.Wide n) (tY src.Wide n) c r q → Xbq now ref 0 0 c (tX src.Wide n) (tY src.Wide n) q = some (d, true) → ∀ i : Nat, i < 64 → P (tX src.Wide n + ((i % 8 : Nat) : Int)) (tY src.Wide n + ((i / 8 : Nat) : Int)) (d.getD i 0))
  {l : List Xan} {now : Pic} (h : Xlm src ref c r ((src.Wide / 8).toNat * (src.High / 8).toNat) l now) : ∀ X Y : Int, 0 ≤ X ∧ X < src.Wide → 0 ≤ Y ∧ Y < src.High → P X Y (Xnz now X Y) := by
 intro X Y hX hY
 refine h.dots H P hP X Y hX hY ?_
 have sw := Xh7 H.hw
 have sh := Xh7 H.hh
 have p := Xt0 (W := src.Wide / 8) (H := src.High / 8) (x := X / 8) (y := Y / 8) ⟨by omega, by omega⟩ ⟨by omega, by omega⟩
 rw [Int.natCast_mul, show (((src.Wide / 8).toNat : Nat) : Int) = src.Wide / 8 by omega, show (((src.High / 8).toNat : Nat) : Int) = src.High / 8 by omega]
 exact p.2
theorem Yqi (p : Pic) (x y : Int) {i : Nat} (hi : i < 64) : (Xmg p x y 64).getD i 0 = Xnz p (x + ((i % 8 : Nat) : Int)) (y + ((i / 8 : Nat) : Int)) := Xhw _ hi
theorem Xlm.same {src ref : Pic} {c : Cond} {r : Int} (H : Yoh src ref c r) (hd : ∀ (now : Pic) (w : List Int) (x y : Int) (q : Xan) (d : List Int), Yrk now ref w x y c r → w = Xmg src x y 64 → Xok now ref w x y c r q → Xbq now ref 0 0 c x y q = some (d, true) → d = w) {l : List Xan} {now : Pic} (h : Xlm src ref c r ((src.Wide / 8).toNat * (src.High / 8).toNat) l now) : now = src := by
 obtain ⟨ok, w, hh, _, _⟩ := h.pic H
 refine Yrw ok H.ok w hh fun X Y hX hY => ?_
 rw [w] at hX
 rw [hh] at hY
 refine h.all H (fun X Y v => v = Xnz src X Y) (fun n now q d hn SF hq hs i hi => ?_) X Y hX hY
 rw [hd now _ _ _ q d SF rfl hq hs]
 exact Yqi _ _ _ hi
theorem Xlm.still {src : Pic} {c : Cond} {r : Int} (H : Yoh src src c r) (hK : c.Key = false) {n : Nat} {l : List Xan} {now : Pic} (h : Xlm src src c r n l now) : l = List.replicate n ⟨0, 0, 0, 0, []⟩ := by
 induction h with
 | zero => rfl
 | succ h hn q d now' hi hs hq hd hp ih =>
  have : q = ⟨0, 0, 0, 0, []⟩ := by
   cases hq with
   | same => rfl
   | still => rfl
   | move _ _ _ _ _ _ _ _ _ hn => exact absurd (fun _ _ => rfl) hn
   | guess _ _ _ _ _ _ _ _ _ _ _ hn => exact absurd (fun _ _ => rfl) (hn hK)
  rw [ih, this, List.replicate_succ']
theorem Yi1 {src ref : Pic} {c : Cond} {r : Int} (H : Yoh src ref c r) : ∃ l now, Xd6 src ref c r = some (l, now, true) ∧ Xc8 src ref c r = some (l, now, true) ∧ Xlm src ref c r ((src.Wide / 8).toNat * (src.High / 8).toNat) l now := by
 have hm : maxLen = 9223372036854775807 := rfl
 have sw := Xh7 H.hw
 have sh := Xh7 H.hh
 obtain ⟨k1, k2, k3⟩ := Xa5 H.ok
 -- one row
 have row : ∀ a : Nat, (a : Int) < src.High / 8 → ∀ (l : List Xan) (now : Pic), Xlm src ref c r ((src.Wide / 8).toNat * a) l now → ∃ l' now', loop (Xdy src ref c r ((8 * a : Nat), l, now.Wide, now.High, now.Dots)) (0, l, now.Wide, now.High, now.Dots) = some (.out (l', now'.Wide, now'.High, now'.Dots)) ∧ loop (Xca src ref c r ((8 * a : Nat), l, now.Wide, now.High, now.Dots)) (0, l, now.Wide, now.High, now.Dots) = some (l', now'.Wide, now'.High, now'.Dots) ∧ Xlm src ref c r ((src.Wide / 8).toNat * (a + 1)) l' now' := by
  intro a ha l now hT
  have key : ∀ b : Nat, b ≤ (src.Wide / 8).toNat → ∀ (l2 : List Xan) (now2 : Pic), Xlm src ref c r ((src.Wide / 8).toNat * a + b) l2 now2 → ∃ l' now', loop (Xdy src ref c r ((8 * a : Nat), l, now.Wide, now.High, now.Dots)) (((8 * b : Nat) : Int), l2, now2.Wide, now2.High, now2.Dots) = some (.out (l', now'.Wide, now'.High, now'.Dots)) ∧ loop (Xca src ref c r ((8 * a : Nat), l, now.Wide, now.High, now.Dots)) (((8 * b : Nat) : Int), l2, now2.Wide, now2.High, now2.Dots) = some (l', now'.Wide, now'.High, now'.Dots) ∧ Xlm src ref c r ((src.Wide / 8).toNat * (a + 1)) l' now' := by
   refine Xio _ ?_ ?_
   ·
    intro l2 now2 h2
    refine ⟨l2, now2, Xj0 ?_, Xj0 ?_, by rw [Nat.mul_add, Nat.mul_one]; exact h2⟩
    ·
     unfold Xdy
     rw [Xav (by simp only; omega)]
    ·
     unfold Xca
     rw [Xav (by simp only; omega)]
   ·
    intro b hb ih l2 now2 h2
    have hbI : (b : Int) < src.Wide / 8 := by omega
    obtain ⟨eX, eY⟩ := Yr5 H.hw a b hbI
    obtain ⟨q, d, now', e1, e1s, hd, ep, hT'⟩ := h2.step H (Yp8 H.hw a b hbI ha)
    rw [eX, eY] at e1 e1s ep
    obtain ⟨ok2, w2, hh2, hl2, _⟩ := h2.pic H
    obtain ⟨l', n', el, els, hT2⟩ := ih (l2 ++ [q]) now' hT'
    have lb : l2.length ≤ 1000 := by
     have := Yp8 H.hw a b hbI ha
     have : src.Wide / 8 * (src.High / 8) ≤ 8 * 8 := Int.mul_le_mul (by omega) (by omega) (by omega) (by omega)
     omega
    refine ⟨l', n', lgo (y := (((8 * (b + 1) : Nat) : Int), l2 ++ [q], now'.Wide, now'.High, now'.Dots)) ?_ el, lgo (y := (((8 * (b + 1) : Nat) : Int), l2 ++ [q], now'.Wide, now'.High, now'.Dots)) ?_ els, hT2⟩
    ·
     unfold Xdy
     simp only
     rw [show ((8 * a : Nat) : Int) = 8 * (a : Int) by omega, show ((8 * b : Nat) : Int) = 8 * (b : Int) by omega, syA, Xfj H.ok _ _ (by omega) (by omega), Xad, show (⟨now2.Wide, now2.High, now2.Dots⟩ : Pic) = now2 from rfl, e1, Xad]
     simp only
     rw [Bool.not_true, Xay, Xbn (by simp only [List.length_singleton]; omega), Ynn hd (by have := Yow ok2; omega), ep, Xad, wkA, show ((8 * (b + 1) : Nat) : Int) = 8 * (b : Int) + 8 by omega]
    ·
     unfold Xca
     simp only
     rw [show ((8 * a : Nat) : Int) = 8 * (a : Int) by omega, show ((8 * b : Nat) : Int) = 8 * (b : Int) by omega, syA, Xbo H.ok _ _ (by omega) (by omega), Xad, show (⟨now2.Wide, now2.High, now2.Dots⟩ : Pic) = now2 from rfl, e1s, Xad]
     simp only
     rw [Xbn (by simp only [List.length_singleton]; omega), ep, Xad, wkA, show ((8 * (b + 1) : Nat) : Int) = 8 * (b : Int) + 8 by omega]
  exact key 0 (by omega) l now hT
 have rows : ∀ a : Nat, a ≤ (src.High / 8).toNat → ∀ (l : List Xan) (now : Pic), Xlm src ref c r ((src.Wide / 8).toNat * a) l now → ∃ l' now', loop (Xdx src ref c r) (((8 * a : Nat) : Int), l, now.Wide, now.High, now.Dots) = some (.out (l', now'.Wide, now'.High, now'.Dots)) ∧ loop (Xb9 src ref c r) (((8 * a : Nat) : Int), l, now.Wide, now.High, now.Dots) = some (l', now'.Wide, now'.High, now'.Dots) ∧ Xlm src ref c r ((src.Wide / 8).toNat * (src.High / 8).toNat) l' now' := by
  refine Xio _ ?_ ?_
  ·
   intro l now h
   refine ⟨l, now, Xj0 ?_, Xj0 ?_, h⟩
   ·
    unfold Xdx
    rw [Xav (by simp only; omega)]
   ·
    unfold Xb9
    rw [Xav (by simp only; omega)]
  ·
   intro a ha ih l now h
   obtain ⟨l', n', el, els, hT⟩ := row a (by omega) l now h
   obtain ⟨l2, n2, el2, el2s, hT2⟩ := ih l' n' hT
   refine ⟨l2, n2, lgo (y := (((8 * (a + 1) : Nat) : Int), l', n'.Wide, n'.High, n'.Dots)) ?_ el2, lgo (y := (((8 * (a + 1) : Nat) : Int), l', n'.Wide, n'.High, n'.Dots)) ?_ el2s, hT2⟩
   ·
    unfold Xdx
    rw [Xbu (by simp only; omega)]
    simp only
    rw [el, Xad]
    simp only
    rw [wkA, show ((8 * (a + 1) : Nat) : Int) = ((8 * a : Nat) : Int) + 8 by omega]
   ·
    unfold Xb9
    rw [Xbu (by simp only; omega)]
    simp only
    rw [els, Xad]
    simp only
    rw [wkA, show ((8 * (a + 1) : Nat) : Int) = ((8 * a : Nat) : Int) + 8 by omega]
 obtain ⟨l, now, e, es, hT⟩ := rows 0 (by omega) [] ⟨src.Wide, src.High, strOfNums (List.replicate (src.Wide * src.High).toNat 128)⟩ (by rw [Nat.mul_zero]; exact .zero)
 refine ⟨l, now, ?_, ?_, hT⟩
 ·
  unfold Xd6
  have hl7 : (sel c.Key (some false) (bnd (Xcz ref) fun q8 => sel q8 (sel (ref.Wide != src.Wide) (some true) (some (ref.High != src.High))) (some true))) = some false := by
   cases hK : c.Key with
   | true => rfl
   | false =>
    obtain ⟨a1, a2, a3⟩ := H.hk hK
    rw [Xay, Xb3, Xad, a1, a2, a3, Xaz, bne_self_eq_false, Xay, bne_self_eq_false]
  rw [Xb3, Xad, H.ok, Xaz, Xkf, Xad, H.hw, Xaz, Xkf, Xad, H.hh, Xaz, Xf0, Xad, H.hc, Xaz, Xar, Xad, decide_eq_true H.hr, Bool.not_true, Xad, Xay, hl7, Xad, Xay, Yho _ _ k1 k2, Xad]
  have e' : loop (Xdx src ref c r) (0, [], src.Wide, src.High, strOfNums (List.replicate (src.Wide * src.High).toNat 128)) = some (.out (l, now.Wide, now.High, now.Dots)) := e
  rw [e', Xad]
 ·
  unfold Xc8
  have hl7 : (sel c.Key (some false) (bnd (Xee src ref) fun q7 => some (!q7))) = some false := by
   cases hK : c.Key with
   | true => rfl
   | false =>
    obtain ⟨a1, a2, a3⟩ := H.hk hK
    rw [Xay, Xg3, Xad, Yf2 H.ok a1 a2 a3]; rfl
  rw [Xcn, Xad, H.ok, Xaz, Xe7, Xad, H.hw, Xaz, Xe7, Xad, H.hh, Xaz, Xbp, Xad, H.hc, Xaz, Xai, Xad, decide_eq_true H.hr, Xaz, hl7, Xad, Xay, Yio _ _ k1 k2, Xad]
  have e' : loop (Xb9 src ref c r) (0, [], src.Wide, src.High, strOfNums (List.replicate (src.Wide * src.High).toNat 128)) = some (l, now.Wide, now.High, now.Dots) := es
  rw [e', Xad]
theorem Ylh {src ref : Pic} {c : Cond} {r : Int} (H : ¬ Yoh src ref c r) : Xd6 src ref c r = some ([], ⟨0, 0, ⟨#[]⟩⟩, false) ∧ Xc8 src ref c r = some ([], ⟨0, 0, ⟨#[]⟩⟩, false) := by
 constructor
 ·
  unfold Xd6
  rw [Xb3, Xad]
  cases ok : Xb1 src with
  | false => rfl
  | true =>
   rw [Xaz, Xkf, Xad]
   cases hw : Xnk src.Wide with
   | false => rfl
   | true =>
    rw [Xaz, Xkf, Xad]
    cases hh : Xnk src.High with
    | false => rfl
    | true =>
     rw [Xaz, Xf0, Xad]
     cases hc : Xin c with
     | false => rfl
     | true =>
      rw [Xaz, Xar, Xad]
      by_cases hr : 0 ≤ r ∧ r ≤ 4
      ·
       rw [decide_eq_true hr, Bool.not_true, Xad, Xay]
       cases hK : c.Key with
       | true => exact absurd ⟨ok, hw, hh, hc, hr, fun h => by rw [hK] at h; cases h⟩ H
       | false =>
        rw [Xay, Xb3, Xad]
        cases rok : Xb1 ref with
        | false => rfl
        | true =>
         rw [Xaz]
         by_cases a : ref.Wide = src.Wide
         ·
          by_cases b : ref.High = src.High
          ·
           exact absurd ⟨ok, hw, hh, hc, hr, fun _ => ⟨rok, a, b⟩⟩ H
          ·
           rw [Xc5 (b := ref.Wide != src.Wide) (by simpa using a), show (ref.High != src.High) = true by simpa using b]; rfl
         ·
          rw [Xhj (b := ref.Wide != src.Wide) (by simpa using a)]; rfl
      ·
       rw [decide_eq_false hr]; rfl
 ·
  unfold Xc8
  rw [Xcn, Xad]
  cases ok : Xb1 src with
  | false => rfl
  | true =>
   rw [Xaz, Xe7, Xad]
   cases hw : Xnk src.Wide with
   | false => rfl
   | true =>
    rw [Xaz, Xe7, Xad]
    cases hh : Xnk src.High with
    | false => rfl
    | true =>
     rw [Xaz, Xbp, Xad]
     cases hc : Xin c with
     | false => rfl
     | true =>
      rw [Xaz, Xai, Xad]
      by_cases hr : 0 ≤ r ∧ r ≤ 4
      ·
       rw [decide_eq_true hr, Xaz]
       cases hK : c.Key with
       | true => exact absurd ⟨ok, hw, hh, hc, hr, fun h => by rw [hK] at h; cases h⟩ H
       | false =>
        rw [Xay, Xg3, Xad]
        cases hb : Yf1 src ref with
        | false => rfl
        | true => exact absurd ⟨ok, hw, hh, hc, hr, fun _ => Ya2 hb⟩ H
      ·
       rw [decide_eq_false hr]; rfl
def Xot (k : Int) : List Xan → List Xan
 | [] => []
 | q :: r => ⟨k, k + 1, k + 1 + 1, k + 1 + 1 + 1, Xpw (k + 1 + 1 + 1 + 1) q.Levels⟩ :: Xot (k + 1 + 1 + 1 + 1 + q.Levels.length) r
def Xw4 (k : Int) : List Xan → Int
 | [] => k
 | q :: r => Xw4 (k + 1 + 1 + 1 + 1 + q.Levels.length) r
theorem Ykd : ∀ (l : List Xan) (k : Int), k ≤ Xw4 k l
 | [], k => by rw [Xw4]; omega
 | q :: r, k => by
  rw [Xw4]
  have := Ykd r (k + 1 + 1 + 1 + 1 + q.Levels.length)
  omega
theorem Yem : ∀ (l : List Xan) (k : Int), (Xot k l).length = l.length
 | [], _ => rfl
 | _ :: r, k => by rw [Xot, List.length_cons, List.length_cons, Yem r]
theorem Xr7 (l : List Xan) (hl : l.length ≤ 1000) (hs : ∀ s ∈ l, s.Levels.length ≤ 64) : Xfv l 1 = some (Xw4 1 l, Xot 1 l) := by
 unfold Xfv
 have key : ∀ (r a : List Xan) (j : Int), 0 < j → j + 68 * r.length ≤ 100000 → a.length + r.length ≤ 100000 → (∀ s ∈ r, s.Levels.length ≤ 64) → loop Xdn (j, (a.length : Int), a ++ r) = some (Xw4 j r, a ++ Xot j r) := by
  intro r
  induction r with
  | nil =>
   intro a j hj1 hj2 hl hs
   refine Xj0 ?_
   unfold Xdn
   simp only [List.append_nil]
   rw [snA]
   simp [Xot, Xw4]
  | cons p r ih =>
   intro a j hj1 hj2 hl hs
   have hp := hs p (by simp)
   simp only [List.length_cons] at hj2 hl ⊢
   have hcl : ∀ x : Xan, (a ++ x :: r).length = a.length + (r.length + 1) := fun x => by simp
   refine lgo (y := (j + 1 + 1 + 1 + 1 + p.Levels.length, ((a ++ [(⟨j, j + 1, j + 1 + 1, j + 1 + 1 + 1, Xpw (j + 1 + 1 + 1 + 1) p.Levels⟩ : Xan)]).length : Int), (a ++ [(⟨j, j + 1, j + 1 + 1, j + 1 + 1 + 1, Xpw (j + 1 + 1 + 1 + 1) p.Levels⟩ : Xan)]) ++ r)) ?_ ?_
   ·
    unfold Xdn
    simp only [Int.toNat_natCast, Ygg, Xzc, hcl]
    rw [syA, rqA, wkA (e := j + 1), wkA (e := j + 1 + 1), wkA (e := j + 1 + 1 + 1), wkA (e := j + 1 + 1 + 1 + 1), Xxx p.Levels (j + 1 + 1 + 1 + 1) (by omega) (by omega) (by omega), Xad, wkA]
    simp
   ·
    rw [ih _ (j + 1 + 1 + 1 + 1 + p.Levels.length) (by omega) (by omega) (by simp; omega) (fun s h => hs s (by simp [h]))]
    simp only [Xot, Xw4, List.append_assoc, List.singleton_append]
 have := key l [] 1 (by omega) (by omega) (by simp; omega) hs
 simp only [List.length_nil, List.nil_append] at this
 rw [show ((1, 0, l) : Int × Int × List Xan) = (1, ((0 : Nat) : Int), l) from rfl, this]
 rfl
theorem Xr5 (l : List Xan) (hl : l.length ≤ 1000) (hs : ∀ s ∈ l, s.Levels.length ≤ 64) : Xdz (Xot 1 l) 1 = some (Xw4 1 l) := by
 unfold Xdz
 have key : ∀ (r a : List Xan) (j : Int), 0 < j → j + 68 * r.length ≤ 100000 → a.length + r.length ≤ 100000 → (∀ s ∈ r, s.Levels.length ≤ 64) → loop (Xdm (a ++ Xot j r)) (j, (a.length : Int)) = some (.out (Xw4 j r)) := by
  intro r
  induction r with
  | nil =>
   intro a j hj1 hj2 hl hs
   refine Xj0 ?_
   unfold Xdm
   simp only [Xot, List.append_nil]
   rw [snA]
   simp [Xw4]
  | cons p r ih =>
   intro a j hj1 hj2 hl hs
   have hp := hs p (by simp)
   simp only [List.length_cons] at hj2 hl ⊢
   have hcl : ∀ (x : Xan) (r : List Xan), (a ++ x :: r).length = a.length + (r.length + 1) := fun x r => by simp
   refine lgo (y := (j + 1 + 1 + 1 + 1 + p.Levels.length, ((a ++ [(⟨j, j + 1, j + 1 + 1, j + 1 + 1 + 1, Xpw (j + 1 + 1 + 1 + 1) p.Levels⟩ : Xan)]).length : Int))) ?_ ?_
   ·
    unfold Xdm
    simp only [Xot, Int.toNat_natCast, Xzc, hcl, Yem]
    rw [wkA (e := j + 1), wkA (e := j + 1 + 1), wkA (e := j + 1 + 1 + 1), wkA (e := j + 1 + 1 + 1 + 1)]
    rw [syA]
    iterate 4 rw [rqA, Xc5 (by simp)]
    rw [rqA, Xxv p.Levels (j + 1 + 1 + 1 + 1) (by omega) (by omega) (by omega), Xad, snA, wkA]
    simp
   ·
    have := ih (a ++ [(⟨j, j + 1, j + 1 + 1, j + 1 + 1 + 1, Xpw (j + 1 + 1 + 1 + 1) p.Levels⟩ : Xan)]) (j + 1 + 1 + 1 + 1 + p.Levels.length) (by omega) (by omega) (by simp; omega) (fun s h => hs s (by simp [h]))
    simp only [Xot, Xw4]
    rw [List.append_assoc, List.singleton_append] at this
    rw [this]
 have := key l [] 1 (by omega) (by omega) (by simp; omega) hs
 simp only [List.length_nil, List.nil_append] at this
 rw [show ((1, 0) : Int × Int) = (1, ((0 : Nat) : Int)) from rfl, this]
 rfl
theorem Yj4 {s : Xan} (h : Xrj s = true) : s.Levels.length ≤ 64 := by
 unfold Xrj Ych at h
 split at h
 ·
  simp only [decide_eq_true_eq] at h; omega
 ·
  split at h
  ·
   simp only [Bool.and_eq_true, decide_eq_true_eq] at h; omega
  ·
   split at h
   ·
    simp only [Bool.and_eq_true, decide_eq_true_eq] at h; omega
   ·
    cases h
theorem FnExactTileFor {p0 p1 : Pic} {p2 : Cond} {p3 : Int} (h0 : Yqx p0) (h1 : Yqx p1) (h2 : Yp6 p2) (h3 : (Lit.int .i64 p3).wf = true) : Xfm p0 p1 p2 p3 = some true := by
 have hm : maxLen = 9223372036854775807 := rfl
 unfold Xfm
 have d0 : p0.Dots.size ≤ maxLen := h0.2.2
 have d1 : p1.Dots.size ≤ maxLen := h1.2.2
 rw [Xtx p0 1048576 d0 (by omega) (by omega), Xad]
 by_cases hz : (1048576 : Int) < p0.Dots.size
 ·
  rw [if_pos hz, syA]
 rw [if_neg hz, snA, Xtx p1 _ d1 (by omega) (by omega), Xad]
 by_cases hz1 : 1048576 - (p0.Dots.size : Int) < p1.Dots.size
 ·
  rw [if_pos hz1, syA]
 rw [if_neg hz1, snA]
 obtain ⟨l, p, b, ei, es, hl, hs⟩ : ∃ l p b, Xd6 p0 p1 p2 p3 = some (l, p, b) ∧ Xc8 p0 p1 p2 p3 = some (l, p, b) ∧ l.length ≤ 64 ∧ ∀ s ∈ l, s.Levels.length ≤ 64 := by
  by_cases H : Yoh p0 p1 p2 p3
  ·
   obtain ⟨l, now, e1, e2, _⟩ := Yi1 H
   obtain ⟨l', p', b', e3, g1, g2⟩ := Yb1 p0 p1 p2 p3
   rw [e2] at e3
   cases e3
   exact ⟨l, now, true, e1, e2, g1, fun s hs => Yj4 (g2 s hs)⟩
  ·
   obtain ⟨e1, e2⟩ := Ylh H
   exact ⟨_, _, _, e1, e2, by simp, by simp⟩
 have hge := Ykd l 1
 simp only [Xg9, Xjz, Xad, ei, es, Xr4 l (by omega) (fun s h => by have := hs s h; omega), Yaz, Xaz, beq_self_eq_true, Bool.not_true, Xay, Xr7 l (by omega) hs, Xr5 l (by omega) hs, bne_self_eq_false]
 rw [snA, snA]
end Go.Proofs.YthpkcbplfbokcaaGreat.A.Pure
