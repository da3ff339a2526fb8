/- The pure statement of the law FnExactPartShows: over numbers, texts and lists alone, what the law computes is true. Conditions: the sizes of what a machine holds. -/
import Derived.Test.YtlebkepfhdjnmadGreatDFnExactPartShows
namespace Go.Proofs.YtlebkepfhdjnmadGreat.A.Pure
open Go Go.Proofs Go.Proofs.YtlebkepfhdjnmadGreatAL Go.RowKit
set_option linter.unusedVariables false
set_option linter.unusedSimpArgs false
set_option maxHeartbeats 1000000
theorem Xad {α β : Type} (a : α) (f : α → Option β) : bnd (some a) f = f a := rfl
theorem Xfl {α β : Type} {x : Option α} {a : α} {f : α → Option β} (h : x = some a) : bnd x f = f a := by subst h; rfl
theorem Xau {β : Type} (x y : β) : sel true x y = x := rfl
theorem Xav {β : Type} (x y : β) : sel false x y = y := rfl
theorem Xfj (b x : Bool) : sel b (some x) (some false) = some (b && x) := by cases b <;> rfl
theorem Yhi (b x : Bool) : sel b (some true) (some x) = some (b || x) := by cases b <;> rfl
theorem Yav (b x : Bool) : sel b (some x) (some true) = some (!b || x) := by cases b <;> rfl
theorem Yhj {β : Type} (b : Bool) (x y : β) : sel b (some x) (some y) = some (sel b x y) := by cases b <;> rfl
theorem Yd4 {β : Type} (b : Bool) (x y : β) : sel b x y = if b = true then x else y := by cases b <;> rfl
theorem Yhh {β : Type} (p : Prop) [Decidable p] (x y : β) : sel (decide p) x y = if p then x else y := by
 by_cases h : p <;> simp [h, sel]
theorem Xcp {β : Type} {b : Bool} {x y : β} (h : b = true) : sel b x y = x := by subst h; rfl
theorem Xbw {β : Type} {b : Bool} {x y : β} (h : b = false) : sel b x y = y := by subst h; rfl
theorem Xeu {β : Type} {p : Prop} [Decidable p] {x y : β} (h : p) : sel (decide p) x y = x := by simp [h, sel]
theorem Xaz {β : Type} {p : Prop} [Decidable p] {x y : β} (h : ¬ p) : sel (decide p) x y = y := by simp [h, sel]
theorem Xby {β : Type} {c : Prop} [Decidable c] {k : Option β} (h : c) : req c k = k := if_pos h
theorem wk {e : Int} (h1 : -9223372036854775808 ≤ e) (h2 : e ≤ 9223372036854775807) : Xaa .i64 e = e := by
 show wrap64 e = e
 unfold wrap64; omega
theorem rqA {β : Type} {c : Prop} [Decidable c] {k : Option β} (h : c := by omega) : req c k = k := Xby h
theorem syA {β : Type} {c : Prop} [Decidable c] {x y : β} (h : c := by omega) : sel (decide c) x y = x := Xeu h
theorem snA {β : Type} {c : Prop} [Decidable c] {x y : β} (h : ¬ c := by omega) : sel (decide c) x y = y := Xaz h
theorem wkA {e : Int} (h1 : -9223372036854775808 ≤ e := by omega) (h2 : e ≤ 9223372036854775807 := by omega) : Xaa .i64 e = e := wk h1 h2
theorem w8 {e : Int} (h1 : 0 ≤ e) (h2 : e ≤ 255) : Xaa .u8 e = e := by
 show IntKind.wrap .u8 e = e
 simp [IntKind.wrap, IntKind.signed, IntKind.bits]; omega
theorem Xci {a b : Int} (h : 0 ≤ a) : Int.tmod a b = a % b := Int.tmod_eq_emod_of_nonneg h
theorem Xbk {a b : Int} (h : 0 ≤ a) : Int.tdiv a b = a / b := Int.tdiv_eq_ediv_of_nonneg h
theorem Xgm {P : Nat → Prop} (n : Nat) (h0 : P n) (hs : ∀ i, i < n → P (i + 1) → P i) : ∀ i, i ≤ n → P i := by
 intro i hi
 obtain ⟨k, rfl⟩ : ∃ k, n = i + k := ⟨n - i, by omega⟩
 clear hi
 induction k generalizing i with
 | zero => exact h0
 | succ k ih =>
  refine hs i (by omega) ?_
  exact ih (i + 1) (by rw [show i + 1 + k = i + (k + 1) by omega]; exact h0) (fun j hj => hs j (by omega))
theorem lgo {V O : Type} {f : V → Option (Lp V O)} {x y : V} {r : Option O} (h : f x = some (.go y)) (k : loop f y = r) : loop f x = r := by rw [Yah h]; exact k
theorem Xel {V O : Type} {f : V → Option (Lp V O)} {x : V} {o : O} (h : f x = some (.done o)) : loop f x = some o := Xft h
theorem Xcm {α : Type} (l : List α) (i : Nat) (h : i < l.length) (d : α) : l.getD i d = l[i] := by
 simp [List.getD_eq_getElem?_getD, List.getElem?_eq_getElem h]
theorem Xaj (a b c : Int) : Xan a b c = some (decide (b ≤ a ∧ a ≤ c)) := by
 unfold Xan
 by_cases h : b ≤ a <;> simp [bnd, sel, h]
theorem Xai (a b c : Int) : Xar a b c = some (decide (b ≤ a ∧ a ≤ c)) := by
 unfold Xar
 by_cases h : b ≤ a <;> simp [bnd, sel, h]
theorem Yki {α : Type} (a : List α) (x y : α) (b : List α) : (a ++ x :: b).set a.length y = a ++ y :: b := by
 induction a with
 | nil => rfl
 | cons z a ih => simp only [List.cons_append, List.length_cons, List.set_cons_succ, ih]
theorem Yel {α : Type} (a : List α) (x d : α) (b : List α) : (a ++ x :: b).getD a.length d = x := by
 induction a with
 | nil => rfl
 | cons z a ih => simp
theorem Xvo {f : Int → Option (Lp Int (Ou Unit Bool))} (n : Nat) (h : ∀ i : Nat, i < n → f i = some (.go ((i + 1 : Nat) : Int))) (h0 : f n = some (.done (.out ()))) : loop f 0 = some (.out ()) :=
 Xgm (P := fun i => loop f (i : Int) = some (.out ())) n (Xft h0) (fun i hi ih => by rw [Yah (h i hi)]; exact ih) 0 (by omega)
def Xcc (n a b : Int) : Int := if b < a ∨ n < a then a else if n > b then b else n
theorem Xgo (n a b : Int) : Xc5 n a b = some (Xcc n a b) := by
 unfold Xc5 Xcc
 congr 1
 repeat' split
 all_goals omega
theorem Xiv {n a b : Int} (h : a ≤ b) : a ≤ Xcc n a b ∧ Xcc n a b ≤ b := by
 unfold Xcc
 repeat' split
 all_goals omega
theorem Xds (n a b : Int) : Xdb n a b = some (Xcc n a b) := by
 unfold Xdb Xcc
 rw [Yhi, Xad]
 by_cases h : b < a ∨ n < a
 ·
  rw [if_pos h, Xcp (by simpa using h)]
 ·
  rw [if_neg h, Xbw (by simp; omega), Yhh]; split <;> rfl
def Yg6 (p : Par) : Bool := decide (0 ≤ p.Qp ∧ p.Qp ≤ 40) && !(p.Large && p.Exact)
theorem Ya4 (p : Par) : Xkk p = some (Yg6 p) := by
 unfold Xkk Yg6
 rw [Xai, Xad, Yav, Xfj, Xad]
 cases p.Large <;> cases p.Exact <;> rfl
theorem Xzy (p : Par) : Xj2 p = some (Yg6 p) := by
 unfold Xj2 Yg6
 rw [Xaj, Xad, Yav, Xfj, Xad]
 cases p.Large <;> cases p.Exact <;> rfl
def Xdn (p : Pic) : Bool := decide (1 ≤ p.Wide ∧ p.Wide ≤ 256) && (decide (1 ≤ p.High ∧ p.High ≤ 256) && ((p.Dots.size : Int) == p.Wide * p.High))
theorem Xee {w h : Int} (h1 : 1 ≤ w ∧ w ≤ 256) (h2 : 1 ≤ h ∧ h ≤ 256) : 1 ≤ w * h ∧ w * h ≤ 65536 := by
 have a : w * 1 ≤ w * h := Int.mul_le_mul_of_nonneg_left h2.1 (by omega)
 have b : w * h ≤ 256 * h := Int.mul_le_mul_of_nonneg_right h1.2 (by omega)
 omega
theorem Xg3 (p : Pic) : Xgf p = some (Xdn p) := by
 unfold Xgf Xdn
 simp only [Xai, Xad, Xfj]
 by_cases h1 : 1 ≤ p.Wide ∧ p.Wide ≤ 256
 ·
  by_cases h2 : 1 ≤ p.High ∧ p.High ≤ 256
  ·
   have := Xee h1 h2
   rw [wkA]
  ·
   rw [decide_eq_false h2, Bool.false_and, Bool.false_and]
 ·
  rw [decide_eq_false h1, Bool.false_and, Bool.false_and]
theorem Xfa (p : Pic) : Xef p = some (Xdn p) := by
 unfold Xef Xdn
 simp only [Xaj, Xad, Xfj]
 by_cases h1 : 1 ≤ p.Wide ∧ p.Wide ≤ 256
 ·
  by_cases h2 : 1 ≤ p.High ∧ p.High ≤ 256
  ·
   have := Xee h1 h2
   rw [wkA]
  ·
   rw [decide_eq_false h2, Bool.false_and, Bool.false_and]
 ·
  rw [decide_eq_false h1, Bool.false_and, Bool.false_and]
theorem Xu2 (p : Pic) : Xkd p p = some true := by
 unfold Xkd
 simp only [bne_self_eq_false, Xav, beq_self_eq_true, Bool.not_true]
def Yk8 (l : List Int) : Prop := ∀ x ∈ l, 0 ≤ x ∧ x ≤ 255
theorem Ygf (l : List Int) (h : Yk8 l) (i : Nat) (hi : i < l.length) : Xtz (strOfNums l) (i : Int) = l.getD i 0 := by
 unfold Xtz
 rw [dif_pos (by rw [Int.toNat_natCast, strOfNums_size]; exact hi)]
 have hx := h l[i] (List.getElem_mem hi)
 rw [Xcm l i hi]
 show ((((l.map fun n => UInt8.ofNat n.toNat).toArray)[(i : Int).toNat]'(by simpa using hi)).toNat : Int) = _
 simp only [Int.toNat_natCast, List.getElem_toArray, List.getElem_map, UInt8.toNat_ofNat']
 omega
def Xys (l : List Int) : Prop := ∀ x ∈ l, x = 48 ∨ x = 49
theorem Ybn {l : List Int} (h : Xys l) : Yk8 l := fun x hx => by rcases h x hx with e | e <;> omega
theorem Xwg (n : Nat) (x : Int) (h : n ≤ 1000000000) : Xib (n : Int) x = some (strOfNums (List.replicate n x)) := by
 unfold Xib
 rw [rqA, Int.toNat_natCast]
 have key : ∀ (k a : Nat), k + a = n → loop (Xe3 (n : Int) x) ((a : Int), List.replicate a x ++ List.replicate k 0) = some (List.replicate n x) := by
  intro k
  induction k with
  | zero =>
   intro a ha
   refine Xel ?_
   unfold Xe3
   simp only
   rw [snA]
   simp; omega
  | succ k ih =>
   intro a ha
   have e2 := Yki (List.replicate a x) 0 x (List.replicate k 0)
   rw [List.length_replicate] at e2
   refine lgo (y := (((a + 1 : Nat) : Int), List.replicate (a + 1) x ++ List.replicate k 0)) ?_ (ih (a + 1) (by omega))
   unfold Xe3
   simp only [List.replicate_succ (n := k), Int.toNat_natCast]
   rw [syA, Xby (by simp; omega), Xby (by simp), e2, wkA, List.replicate_succ' (n := a), List.append_assoc]
   rfl
 have := key n 0 rfl
 rw [List.replicate_zero, List.nil_append] at this
 exact Xfl this
def Xl0 (l : List Int) : Int := l.foldl (fun x b => 2 * x + b - 48) 0
theorem Yky (l : List Int) : ∀ x : Int, l.foldl (fun x b => 2 * x + b - 48) x = x * 2 ^ l.length + Xl0 l := by
 induction l with
 | nil => intro x; simp [Xl0]
 | cons b l ih =>
  intro x
  unfold Xl0
  rw [List.foldl_cons, List.foldl_cons, ih, ih (2 * 0 + b - 48), List.length_cons, Int.pow_succ]
  have e1 : (2 * x + b - 48) * 2 ^ l.length = 2 * (x * 2 ^ l.length) + (b - 48) * 2 ^ l.length := by
   rw [show 2 * x + b - 48 = 2 * x + (b - 48) by omega, Int.add_mul, Int.mul_assoc]
  have e2 : x * (2 ^ l.length * 2) = 2 * (x * 2 ^ l.length) := by rw [← Int.mul_assoc, Int.mul_comm]
  rw [e1, e2, show (2 : Int) * 0 + b - 48 = b - 48 by omega]
  omega
theorem Yeb (a b : List Int) : Xl0 (a ++ b) = Xl0 a * 2 ^ b.length + Xl0 b := by
 show (a ++ b).foldl _ 0 = _
 rw [List.foldl_append]
 exact Yky b (Xl0 a)
theorem Xms {l : List Int} (h : Xys l) : 0 ≤ Xl0 l ∧ Xl0 l < 2 ^ l.length := by
 induction l with
 | nil => simp [Xl0]
 | cons b l ih =>
  have h1 := ih (fun x hx => h x (by simp [hx]))
  have h2 := h b (by simp)
  rw [show b :: l = [b] ++ l from rfl, Yeb, List.length_append, Int.pow_add, show Xl0 [b] = b - 48 by simp [Xl0]]
  have : (2 : Int) ^ [b].length = 2 := rfl
  rw [this]
  rcases h2 with rfl | rfl <;> omega
theorem Yad (p : Pic) (m : Int) (hl : p.Dots.size ≤ maxLen) (h0 : 0 ≤ m) (h1 : m ≤ 1048576) : Xke p m = some (if m < p.Dots.size then -1 else m - p.Dots.size) := by
 have hm : maxLen = 9223372036854775807 := rfl
 unfold Xke
 rw [wkA, Yhh]
 by_cases h : m < p.Dots.size
 ·
  rw [if_pos h, if_pos (by omega)]
 ·
  rw [if_neg h, if_neg (by omega)]
def Yk1 (x : Int) : Bool := decide (-5000 ≤ x ∧ x ≤ 5000)
def Yfm (l : List Int) : Bool := decide (l.length = 64) && l.all Yk1
theorem Xzh (p : Int → Bool) (l : List Int) (f : Int → Option (Lp Int (Ou Unit Bool))) (h : ∀ i : Nat, i < l.length → f (i : Int) = sel (!(p (l.getD i 0))) (some (.done (.ret false))) (some (.go ((i + 1 : Nat) : Int)))) (h0 : f (l.length : Int) = some (.done (.out ()))) :
  loop f 0 = some (if l.all p = true then .out () else .ret false) := by
 have key : ∀ (r a : List Int), l = a ++ r → loop f (a.length : Int) = some (if r.all p = true then .out () else .ret false) := by
  intro r
  induction r with
  | nil => intro a ha; rw [List.append_nil] at ha; rw [← ha, Xft h0]; rfl
  | cons x r ih =>
   intro a ha
   have hlen : a.length < l.length := by rw [ha]; simp
   have hx : l.getD a.length 0 = x := by rw [ha]; exact Yel a x _ r
   have hs := h a.length hlen
   rw [hx] at hs
   cases e : p x with
   | true =>
    rw [e] at hs
    have := ih (a ++ [x]) (by rw [ha]; simp)
    rw [List.length_append, List.length_singleton] at this
    rw [Yah hs, this, List.all_cons, e, Bool.true_and]
   | false => rw [e] at hs; rw [Xft hs, List.all_cons, e, Bool.false_and]; rfl
 exact key l [] rfl
theorem Xyg (l : List Int) : Xck l 64 5000 = some (Yfm l) := by
 unfold Xck Yfm
 by_cases h : l.length = 64
 ·
  rw [Xbw (by simp only [bne_eq_false_iff_eq]; omega), Xzh Yk1 l (Xct l 64 5000) (by
   intro i hi
   unfold Xct
   rw [syA, rqA, wkA (e := 0 - 5000), Xai, Xad, wkA, Int.toNat_natCast]
   rfl) (by unfold Xct; rw [snA]), Xad, decide_eq_true h, Bool.true_and]
  cases l.all Yk1 <;> rfl
 ·
  rw [Xcp (by simp only [bne_iff_ne, ne_eq]; omega), decide_eq_false h, Bool.false_and]
theorem Xiq (l : List Int) (n lo hi : Int) (hl : l.length ≤ 9223372036854775806) : Xcx l n lo hi = some (l.all (fun x => decide (lo ≤ x ∧ x ≤ hi)) && ((l.length : Int) == n)) := by
 unfold Xcx
 rw [Xzh (fun x => decide (lo ≤ x ∧ x ≤ hi)) l (Xgv l lo hi) (by
   intro i hi
   unfold Xgv
   rw [syA, rqA, Xaj, Xad, wkA, Int.toNat_natCast]
   rfl) (by unfold Xgv; rw [snA]), Xad]
 cases l.all (fun x => decide (lo ≤ x ∧ x ≤ hi)) <;> rfl
theorem Xj9 (l : List Int) (hl : l.length ≤ 9223372036854775806) : Xdg l = some (Yfm l) := by
 unfold Xdg Yfm
 rw [Xiq l _ _ _ hl, Xad]
 show some (l.all Yk1 && ((l.length : Int) == 64)) = _
 have : ((l.length : Int) == 64) = decide (l.length = 64) := by rw [Bool.eq_iff_iff]; simp only [beq_iff_eq, decide_eq_true_eq]; omega
 rw [this, Bool.and_comm]
theorem Yfn {l : List Int} (h : Yfm l = true) : l.length = 64 ∧ l.all Yk1 = true := by
 unfold Yfm at h; rw [Bool.and_eq_true, decide_eq_true_eq] at h; exact h
def Xgl (c : Xf8) : Bool := decide (0 ≤ c.Qp ∧ c.Qp ≤ 40) && !(c.Large && c.Exact)
theorem Xdh (c : Xf8) : Xex c = some (Xgl c) := by
 unfold Xex Xgl
 rw [Xai, Xad, Yav, Xfj, Xad]
 cases c.Large <;> cases c.Exact <;> rfl
theorem Xcr (c : Xf8) : Xen c = some (Xgl c) := by
 unfold Xen Xgl
 rw [Xaj, Xad, Yav, Xfj, Xad]
 cases c.Large <;> cases c.Exact <;> rfl
def Xmr (s : Xao) : Bool :=
 if s.Kind = 0 then decide (s.Mode = 0 ∧ s.Dx = 0 ∧ s.Dy = 0 ∧ s.Levels.length = 0)
 else if s.Kind = 1 then decide (s.Mode = 0) && (decide (-16 ≤ s.Dx ∧ s.Dx ≤ 16) && (decide (-16 ≤ s.Dy ∧ s.Dy ≤ 16) && Yfm s.Levels))
 else if s.Kind = 2 then decide (0 ≤ s.Mode ∧ s.Mode ≤ 3) && (decide (s.Dx = 0) && (decide (s.Dy = 0) && Yfm s.Levels))
 else false
theorem Xzl (a b : Int) : (a == b) = decide (a = b) := by rw [Bool.eq_iff_iff]; simp
theorem Xf0 (s : Xao) : Xcq s = some (Xmr s) := by
 unfold Xcq Xmr
 simp only [Xai, Xyg, Xad, Xfj, Xzl]
 simp only [Yhh]
 by_cases h0 : s.Kind = 0
 ·
  rw [if_pos h0, if_pos h0]; congr 1; rw [Bool.eq_iff_iff]; simp
 ·
  rw [if_neg h0, if_neg h0]
  by_cases h1 : s.Kind = 1
  ·
   rw [if_pos h1, if_pos h1]
  ·
   rw [if_neg h1, if_neg h1]
   by_cases h2 : s.Kind = 2
   ·
    rw [decide_eq_true h2, Bool.true_and, if_pos h2]
   ·
    rw [decide_eq_false h2, Bool.false_and, if_neg h2]
theorem Xeb (s : Xao) (hl : s.Levels.length ≤ 9223372036854775806) : Xd7 s = some (Xmr s) := by
 unfold Xd7 Xmr
 simp only [Xaj, Xj9 _ hl, Xad, Xfj, Xzl]
 simp only [Yhh]
 by_cases h0 : s.Kind = 0
 ·
  rw [if_pos h0, if_pos h0]; congr 1; rw [Bool.eq_iff_iff]; simp
 ·
  rw [if_neg h0, if_neg h0]
  by_cases h1 : s.Kind = 1
  ·
   rw [if_pos h1, if_pos h1]
  ·
   rw [if_neg h1, if_neg h1]
   by_cases h2 : s.Kind = 2
   ·
    rw [decide_eq_true h2, Bool.true_and, if_pos h2]
   ·
    rw [decide_eq_false h2, Bool.false_and, if_neg h2]
def Xil (s : Xao) (c : Xf8) : Bool := !c.Key || s.Kind == 2
theorem Yc4 {s : Xao} (h : Xmr s = true) : 0 ≤ s.Kind ∧ s.Kind ≤ 2 := by
 unfold Xmr at h
 repeat' split at h
 all_goals first | omega | simp at h
theorem Ye7 {s : Xao} (h : Xmr s = true) (h1 : s.Kind = 1) : (-16 ≤ s.Dx ∧ s.Dx ≤ 16) ∧ (-16 ≤ s.Dy ∧ s.Dy ≤ 16) ∧ Yfm s.Levels = true := by
 unfold Xmr at h
 rw [if_neg (by omega), if_pos h1] at h
 simp only [Bool.and_eq_true, decide_eq_true_eq] at h
 exact ⟨h.2.1, h.2.2.1, h.2.2.2⟩
theorem Yi1 {s : Xao} (h : Xmr s = true) (h1 : s.Kind = 2) : (0 ≤ s.Mode ∧ s.Mode ≤ 3) ∧ Yfm s.Levels = true := by
 unfold Xmr at h
 rw [if_neg (by omega), if_neg (by omega), if_pos h1] at h
 simp only [Bool.and_eq_true, decide_eq_true_eq] at h
 exact ⟨h.1, h.2.2.2⟩
def Yhn (l : List Xao) (c : Xf8) : Bool := l.all fun s => Xmr s && (Xgl c && Xil s c)
theorem Xzn (b : ByteArray) (i : Int) : 0 ≤ Xtz b i ∧ Xtz b i ≤ 255 := by
 unfold Xtz
 split
 ·
  rename_i h
  have := (b[i.toNat]'h).toNat_lt
  omega
 ·
  omega
theorem Xbl {p : Pic} (h : Xdn p = true) : (1 ≤ p.Wide ∧ p.Wide ≤ 256) ∧ (1 ≤ p.High ∧ p.High ≤ 256) ∧ (p.Dots.size : Int) = p.Wide * p.High := by
 unfold Xdn at h
 simp only [Bool.and_eq_true, decide_eq_true_eq, beq_iff_eq] at h
 exact ⟨h.1, h.2.1, h.2.2⟩
theorem Yal {p : Pic} (h1 : 1 ≤ p.Wide ∧ p.Wide ≤ 256) (h2 : 1 ≤ p.High ∧ p.High ≤ 256) (h3 : (p.Dots.size : Int) = p.Wide * p.High) : Xdn p = true := by
 unfold Xdn
 simp only [Bool.and_eq_true, decide_eq_true_eq, beq_iff_eq]
 exact ⟨h1, h2, h3⟩
def Xzq (p : Pic) (x y : Int) : Int := Xtz p.Dots (Xcc y 0 (p.High - 1) * p.Wide + Xcc x 0 (p.Wide - 1))
theorem Xku (p : Pic) (x y : Int) : 0 ≤ Xzq p x y ∧ Xzq p x y ≤ 255 := Xzn _ _
theorem Ybt {p : Pic} (ok : Xdn p = true) (x y : Int) : 0 ≤ Xcc y 0 (p.High - 1) * p.Wide + Xcc x 0 (p.Wide - 1) ∧ Xcc y 0 (p.High - 1) * p.Wide + Xcc x 0 (p.Wide - 1) < p.Dots.size ∧ 0 ≤ Xcc y 0 (p.High - 1) * p.Wide ∧ Xcc y 0 (p.High - 1) * p.Wide ≤ 65536 := by
 obtain ⟨h1, h2, h3⟩ := Xbl ok
 have b1 := Xiv (n := y) (a := 0) (b := p.High - 1) (by omega)
 have b2 := Xiv (n := x) (a := 0) (b := p.Wide - 1) (by omega)
 have m1 := Int.mul_nonneg b1.1 (show 0 ≤ p.Wide by omega)
 have m2 := Int.mul_le_mul_of_nonneg_right b1.2 (show 0 ≤ p.Wide by omega)
 have m3 : (p.High - 1) * p.Wide = p.Wide * p.High - p.Wide := by rw [Int.sub_mul, Int.one_mul, Int.mul_comm]
 have m4 := (Xee h1 h2).2
 omega
theorem Xuq {p : Pic} (ok : Xdn p = true) (x y : Int) : Xc9 p x y = some (Xzq p x y) := by
 obtain ⟨h1, h2, h3⟩ := Xbl ok
 unfold Xc9 Xzq
 rw [Xgo, Xad, Xgo, Xad, wkA (e := p.High - 1), wkA (e := p.Wide - 1)]
 obtain ⟨p1, p2, p3, p4⟩ := Ybt ok x y
 have b2 := Xiv (n := x) (a := 0) (b := p.Wide - 1) (by omega)
 have br := Xzn p.Dots (Xcc y 0 (p.High - 1) * p.Wide + Xcc x 0 (p.Wide - 1))
 rw [wkA (e := Xcc y 0 (p.High - 1) * p.Wide), wkA (e := Xcc y 0 (p.High - 1) * p.Wide + Xcc x 0 (p.Wide - 1)), Xby ⟨p1, p2⟩, wkA]
theorem Xg2 {p : Pic} (ok : Xdn p = true) (x y : Int) : Xdt p x y = some (Xzq p x y) := by
 obtain ⟨h1, h2, h3⟩ := Xbl ok
 unfold Xdt Xzq
 rw [Xg3, Xad, ok, Bool.not_true, Xav, Xds, Xad, Xds, Xad, wkA (e := p.High - 1), wkA (e := p.Wide - 1)]
 obtain ⟨p1, p2, p3, p4⟩ := Ybt ok x y
 have b2 := Xiv (n := x) (a := 0) (b := p.Wide - 1) (by omega)
 have br := Xzn p.Dots (Xcc y 0 (p.High - 1) * p.Wide + Xcc x 0 (p.Wide - 1))
 rw [wkA (e := Xcc y 0 (p.High - 1) * p.Wide), wkA (e := Xcc y 0 (p.High - 1) * p.Wide + Xcc x 0 (p.Wide - 1)), Xby ⟨p1, p2⟩, wkA]
def Yff (p : Pic) (x y : Int) (i : Nat) : Int := Xzq p (x + ((i % 8 : Nat) : Int)) (y + ((i / 8 : Nat) : Int))
def Ybe (p : Pic) (x y : Int) (n : Nat) : List Int := (List.range n).map (Yff p x y)
theorem Ybo (p : Pic) (x y : Int) (n : Nat) : Ybe p x y (n + 1) = Ybe p x y n ++ [Yff p x y n] := by simp [Ybe, List.range_succ]
theorem Xnx (p : Pic) (x y : Int) (n : Nat) : (Ybe p x y n).length = n := by simp [Ybe]
def Yic (x : Int) : Bool := decide (0 ≤ x ∧ x ≤ 255)
def Xi3 (l : List Int) : Bool := decide (l.length = 64) && l.all Yic
theorem Xl4 {l : List Int} (h : Xi3 l = true) : l.length = 64 ∧ ∀ i : Nat, i < 64 → 0 ≤ l.getD i 0 ∧ l.getD i 0 ≤ 255 := by
 simp only [Xi3, Bool.and_eq_true, decide_eq_true_eq] at h
 refine ⟨h.1, fun i hi => ?_⟩
 have := List.all_eq_true.1 h.2 (l.getD i 0) (by rw [Xcm l i (by omega)]; exact List.getElem_mem _)
 simpa [Yic] using this
theorem Xty (p : Pic) (x y : Int) : Xi3 (Ybe p x y 64) = true := by
 simp only [Xi3, Xnx, decide_true, Bool.true_and, List.all_eq_true]
 intro z hz
 obtain ⟨i, _, rfl⟩ := List.mem_map.1 hz
 simp only [Yic, decide_eq_true_eq]
 exact Xku _ _ _
theorem Xvs {p : Pic} (ok : Xdn p = true) (x y : Int) (hx : -1000 ≤ x ∧ x ≤ 1000) (hy : -1000 ≤ y ∧ y ≤ 1000) : Xh8 p x y = some (Ybe p x y 64) := by
 have hm : maxLen = 9223372036854775807 := rfl
 unfold Xh8
 rw [Xg3, Xad, ok, Xau, Xai, Xad, syA, Xai, Xad, Xad, decide_eq_true (by omega), Bool.not_true, Xav]
 have key : ∀ i : Nat, i ≤ 64 → loop (Xew p x y) ((i : Int), Ybe p x y i) = some (Ybe p x y 64) := by
  refine Xgm _ ?_ ?_
  ·
   exact Xel (by unfold Xew; rw [Xaz (by simp)])
  ·
   intro i hi ih
   refine lgo (y := (((i + 1 : Nat) : Int), Ybe p x y (i + 1))) ?_ ih
   unfold Xew
   simp only
   rw [syA, rqA, rqA, Xci (by omega), Xbk (by omega), wkA (e := (i : Int) / 8), wkA (e := x + (i : Int) % 8), wkA (e := y + (i : Int) / 8), Xg2 ok, Xad, Xby (by rw [Xnx]; simp only [List.length_singleton]; omega), wkA (e := (i : Int) + 1)]
   have e2 : Xzq p (x + (i : Int) % 8) (y + (i : Int) / 8) = Yff p x y i := by unfold Yff; congr 1
   rw [e2, ← Ybo]
   rfl
 have := key 0 (by omega)
 exact (Xfl this).trans rfl
theorem Xpc {p : Pic} (ok : Xdn p = true) (x y : Int) (hx : -1000 ≤ x ∧ x ≤ 1000) (hy : -1000 ≤ y ∧ y ≤ 1000) : Xeg p x y = some (Ybe p x y 64) := by
 have hm : maxLen = 9223372036854775807 := rfl
 unfold Xeg
 rw [rqA]
 have key : ∀ r : Nat, r ≤ 8 → loop (Xc7 p x y) ((r : Int), Ybe p x y (8 * r)) = some (Ybe p x y 64) := by
  refine Xgm _ ?_ ?_
  ·
   exact Xel (by unfold Xc7; rw [Xaz (by simp)])
  ·
   intro r hr ih
   refine lgo (y := (((r + 1 : Nat) : Int), Ybe p x y (8 * (r + 1)))) ?_ ih
   unfold Xc7
   simp only
   have inner : ∀ c : Nat, c ≤ 8 → loop (Xc8 p x y ((r : Int), Ybe p x y (8 * r))) ((c : Int), Ybe p x y (8 * r + c)) = some (Ybe p x y (8 * (r + 1))) := by
    refine Xgm _ ?_ ?_
    ·
     exact Xel (by unfold Xc8; rw [Xaz (by simp)]; rfl)
    ·
     intro c hc ih2
     refine lgo (y := (((c + 1 : Nat) : Int), Ybe p x y (8 * r + (c + 1)))) ?_ ih2
     unfold Xc8
     simp only
     rw [syA, wkA (e := x + (c : Int)), wkA (e := y + (r : Int)), Xuq ok, Xad, Xby (by rw [Xnx]; simp only [List.length_singleton]; omega), wkA (e := (c : Int) + 1)]
     have e2 : Xzq p (x + (c : Int)) (y + (r : Int)) = Yff p x y (8 * r + c) := by
      unfold Yff
      rw [show (8 * r + c) % 8 = c by omega, show (8 * r + c) / 8 = r by omega]
     rw [e2, ← Ybo]
     rfl
   have i0 := inner 0 (by omega)
   rw [syA]
   refine (Xfl i0).trans ?_
   rw [wkA (e := (r : Int) + 1)]
   rfl
 have := key 0 (by omega)
 exact (Xfl this).trans rfl
theorem Xup (l : List Int) (hl : l.length ≤ 9223372036854775806) : Xcx l 64 0 255 = some (Xi3 l) := by
 rw [Xiq l _ _ _ hl]
 have : ((l.length : Int) == 64) = decide (l.length = 64) := by rw [Bool.eq_iff_iff]; simp only [beq_iff_eq, decide_eq_true_eq]; omega
 rw [this, Bool.and_comm]
 rfl
def Xhz (p : Pic) (x y : Int) : Bool := decide (0 ≤ x ∧ x ≤ p.Wide - 8 ∧ 0 ≤ y ∧ y ≤ p.High - 8)
theorem Xr7 {p : Pic} (ok : Xdn p = true) (x y : Int) (hx : x.tmod 8 = 0) (hy : y.tmod 8 = 0) (h : Xhz p x y = true) : Xb4 p x y = some true := by
 obtain ⟨k1, k2, k3⟩ := Xbl ok
 unfold Xhz at h
 rw [decide_eq_true_eq] at h
 unfold Xb4
 rw [rqA, hx, rqA, hy, wkA (e := p.Wide - 8), wkA (e := p.High - 8), Xaj, Xad, Xaj, Xad, decide_eq_true (by omega), decide_eq_true (by omega)]
 rfl
theorem Xy7 (s : ByteArray) : strOfNums (Xcs s) = s := by
 apply ByteArray.ext
 apply Array.ext'
 simp only [strOfNums, Xcs, List.map_map]
 conv => rhs; rw [← List.map_id s.data.toList]
 refine List.map_congr_left fun c _ => ?_
 simp
def inB (B : Int) (l : List Int) : Prop := ∀ x ∈ l, -B ≤ x ∧ x ≤ B
theorem Xz6 {B C : Int} {l : List Int} (h : inB B l) (hc : B ≤ C) : inB C l := fun x hx => by have := h x hx; omega
theorem Xq0 {B : Int} {a b : List Int} (ha : inB B a) (hb : inB B b) : inB B (a ++ b) := fun x hx => (List.mem_append.1 hx).elim (ha x) (hb x)
theorem Ydo (B : Int) : inB B [] := fun x hx => by simp at hx
theorem Ygo {B x : Int} (h : -B ≤ x ∧ x ≤ B) : inB B [x] := fun y hy => by rw [List.mem_singleton.1 hy]; exact h
theorem Ydq {B : Int} {l : List Int} (h : inB B l) (i : Nat) {y : Int} (hy : -B ≤ y ∧ y ≤ B) : inB B (l.set i y) := fun x hx => by
 rcases List.mem_or_eq_of_mem_set hx with hx | hx
 ·
  exact h x hx
 ·
  rw [hx]; exact hy
theorem Ydp (n : Nat) {B : Int} (h : 0 ≤ B) : inB B (List.replicate n 0) := fun x hx => by rw [List.eq_of_mem_replicate hx]; omega
theorem Xmb {B : Int} {l : List Int} (h : inB B l) {i : Nat} (hi : i < l.length) : -B ≤ l.getD i 0 ∧ l.getD i 0 ≤ B := h _ (by rw [Xcm l i hi]; exact List.getElem_mem _)
theorem Yen {B : Int} {l : List Int} (h : inB B l) (n : Nat) : inB B (l.take n) := fun x hx => h x (List.mem_of_mem_take hx)
theorem Yem {B : Int} {l : List Int} (h : inB B l) (n : Nat) : inB B (l.drop n) := fun x hx => h x (List.mem_of_mem_drop hx)
theorem Xdy {S : Type} {f : Int × S → Option (Lp (Int × S) S)} (n : Nat) (I : Nat → S → Prop) (hs : ∀ (i : Nat) (l : S), i < n → I i l → ∃ l', f ((i : Int), l) = some (.go (((i + 1 : Nat) : Int), l')) ∧ I (i + 1) l') (he : ∀ l, f ((n : Int), l) = some (.done l)) (l0 : S) (h0 : I 0 l0) : ∃ o, loop f (0, l0) = some o ∧ I n o := by
 have key : ∀ i : Nat, i ≤ n → ∀ l, I i l → ∃ o, loop f ((i : Int), l) = some o ∧ I n o := by
  refine Xgm _ ?_ ?_
  ·
   intro l h; exact ⟨l, Xel (he l), h⟩
  ·
   intro i hi ih l h
   obtain ⟨l', e, h'⟩ := hs i l hi h
   obtain ⟨o, e2, h2⟩ := ih l' h'
   exact ⟨o, lgo e e2, h2⟩
 exact key 0 (by omega) l0 h0
theorem Xjj {S : Type} {f : S × Int → Option (Lp (S × Int) S)} (n : Nat) (I : Nat → S → Prop) (hs : ∀ (i : Nat) (l : S), i < n → I i l → ∃ l', f (l, (i : Int)) = some (.go (l', ((i + 1 : Nat) : Int))) ∧ I (i + 1) l') (he : ∀ l, f (l, (n : Int)) = some (.done l)) (l0 : S) (h0 : I 0 l0) : ∃ o, loop f (l0, 0) = some o ∧ I n o := by
 have key : ∀ i : Nat, i ≤ n → ∀ l, I i l → ∃ o, loop f (l, (i : Int)) = some o ∧ I n o := by
  refine Xgm _ ?_ ?_
  ·
   intro l h; exact ⟨l, Xel (he l), h⟩
  ·
   intro i hi ih l h
   obtain ⟨l', e, h'⟩ := hs i l hi h
   obtain ⟨o, e2, h2⟩ := ih l' h'
   exact ⟨o, lgo e e2, h2⟩
 exact key 0 (by omega) l0 h0
theorem Xd5 (l : List Int) (i j : Nat) (y : Int) (hi : i < l.length) : (l.set i y).getD j 0 = if i = j then y else l.getD j 0 := by
 rw [List.getD_eq_getElem?_getD, List.getElem?_set, List.getD_eq_getElem?_getD]
 by_cases h : i = j
 ·
  subst h; rw [if_pos rfl, if_pos rfl, if_pos hi]; rfl
 ·
  rw [if_neg h, if_neg h]
theorem Xmy {f : Int × List Int → Option (Lp (Int × List Int) (List Int))} (n : Nat) (P Q : Int → Prop) (hs : ∀ (i : Nat) (l : List Int), i < n → l.length = n → P (l.getD i 0) → ∃ y, f ((i : Int), l) = some (.go (((i + 1 : Nat) : Int), l.set i y)) ∧ Q y) (he : ∀ l, f ((n : Int), l) = some (.done l)) (l0 : List Int) (h0 : l0.length = n) (hb : ∀ x ∈ l0, P x) : ∃ o, loop f (0, l0) = some o ∧ o.length = n ∧ ∀ x ∈ o, Q x := by
 obtain ⟨o, e, h1, h2, _⟩ := Xdy (f := f) n (fun i l => l.length = n ∧ (∀ j, j < i → Q (l.getD j 0)) ∧ ∀ j, i ≤ j → j < n → P (l.getD j 0)) (by
  intro i l hi ⟨g1, g2, g3⟩
  obtain ⟨y, e, hy⟩ := hs i l hi g1 (g3 i (Nat.le_refl _) hi)
  refine ⟨_, e, by rw [List.length_set]; exact g1, fun j hj => ?_, fun j hj hj2 => ?_⟩
  ·
   rw [Xd5 l i j y (by omega)]
   by_cases h : i = j
   ·
    rw [if_pos h]; exact hy
   ·
    rw [if_neg h]; exact g2 j (by omega)
  ·
   rw [Xd5 l i j y (by omega), if_neg (by omega)]; exact g3 j (by omega) hj2) he l0 ⟨h0, fun j hj => by omega, fun j _ hj => hb _ (by rw [Xcm l0 j (by omega)]; exact List.getElem_mem _)⟩
 refine ⟨o, e, h1, fun x hx => ?_⟩
 obtain ⟨j, hj, rfl⟩ := List.getElem_of_mem hx
 have := h2 j (by omega)
 rwa [Xcm o j hj] at this
theorem Xgd (l : List Int) (n B : Int) (hn : (l.length : Int) = n) (hn2 : n ≤ 1000000) (hB : 0 ≤ B ∧ B ≤ 100000000) (h : inB B l) : Xck l n B = some true := by
 unfold Xck
 rw [Xbw (by simp only [bne_eq_false_iff_eq]; exact hn), Xvo l.length (f := Xct l n B) (by
  intro i hi
  have := Xmb h hi
  unfold Xct
  rw [syA, rqA, wkA (e := 0 - B), Xai, Xad, Int.toNat_natCast, decide_eq_true (by omega), Bool.not_true, Xav, wkA]
  rfl) (by unfold Xct; rw [snA]), Xad]
def Xpt (n i : Int) (v17 : Int × Int) : Option (Lp (Int × Int) (Ou Unit Int)) :=
 sel (decide (v17.2 ≤ (Xaa .i64 ((Xaa .i64 (2 * n)) - 2)))) (
 bnd (it (Xje n i v17) 20 (v17.1, 0)) fun o47 => match o47 with
 | .out v43 => (
 some (.go (v43, Xaa .i64 (v17.2 + 1))))
 | .ret r => some (.done (.ret r))) (
 some (.done (.out ())))
theorem Ycz {n i : Int} {v : Int × Int} {x : Lp (Int × Int) (Ou Unit Int)} (h : Xpt n i v = some x) : Xg4 n i v = some x := by
 unfold Xpt at h
 unfold Xg4
 rcases Xlb h with ⟨hb, h⟩ | ⟨hb, h⟩
 ·
  rw [hb, Xau]
  obtain ⟨a, h1, h2⟩ := Xbd h
  rw [Xfi.2 ⟨20, h1⟩, Xad]
  exact h2
 ·
  rw [hb, Xav]; exact h
theorem Yik {V O : Type} {f g : V → Option (Lp V O)} (hf : ∀ v y, f v = some y → g v = some y) {o : O} : ∀ (k : Nat) (v : V), it f k v = some o → it g k v = some o
 | 0, v, h => by cases h
 | k + 1, v, h => by
  rw [it] at h ⊢
  cases e : f v with
  | none => rw [e] at h; cases h
  | some s =>
   rw [e] at h
   rw [hf v s e]
   cases s with
   | go y => exact Yik hf k y h
   | done o' => exact h
def Xet (n i : Int) : Int := match it (Xpt n i) 20 (0, 0) with | some (.ret q) => q | _ => -1
theorem Yix : ∀ i : Fin 16, (0 ≤ Xet 4 (i.val : Int) ∧ Xet 4 (i.val : Int) < 16) := by decide +kernel
theorem Yiy : ∀ i : Fin 64, (0 ≤ Xet 8 (i.val : Int) ∧ Xet 8 (i.val : Int) < 64) := by decide +kernel
theorem Xjo (n : Int) (hn : n = 4 ∨ n = 8) (i : Nat) (hi : (i : Int) < n * n) : 0 ≤ Xet n i ∧ Xet n i < n * n := by
 rcases hn with rfl | rfl
 ·
  exact Yix ⟨i, by omega⟩
 ·
  exact Yiy ⟨i, by omega⟩
theorem Xj1 (n : Int) (hn : n = 4 ∨ n = 8) (i : Nat) (hi : (i : Int) < n * n) : Xjd n i = some (Xet n i) := by
 have hp := Xjo n hn i hi
 unfold Xjd
 have hw : Xaa .i64 (n * n) = n * n := by rcases hn with rfl | rfl <;> exact wkA
 have hc : (sel (n != 4) (sel (n != 8) (some true) (sel (decide ((i : Int) < 0)) (some true) (some (decide ((i : Int) ≥ (Xaa .i64 (n * n))))))) (sel (decide ((i : Int) < 0)) (some true) (some (decide ((i : Int) ≥ (Xaa .i64 (n * n))))))) = some false := by
  rw [hw, Xaz (show ¬ (i : Int) < 0 by omega), decide_eq_false (show ¬ (i : Int) ≥ n * n by omega)]
  rcases hn with rfl | rfl <;> rfl
 rw [hc, Xad, Xav]
 unfold Xet at hp ⊢
 cases e : it (Xpt n i) 20 (0, 0) with
 | none => rw [e] at hp; simp only at hp; omega
 | some s =>
  rw [e] at hp
  have h := Yik (fun v y => Ycz (n := n) (i := i)) 20 _ e
  rw [Xfi.2 ⟨20, h⟩, Xad]
  cases s with
  | out u => simp only at hp; omega
  | ret q => rfl
theorem Xdv (n : Int) (hn : n = 4 ∨ n = 8) (l : List Int) (B : Int) (hB : 0 ≤ B) (hl : (l.length : Int) = n * n) (hb : inB B l) : ∃ o, Xb9 n l = some (o, true) ∧ o.length = l.length ∧ inB B o := by
 have hm : maxLen = 9223372036854775807 := rfl
 have hw : Xaa .i64 (n * n) = n * n := by rcases hn with rfl | rfl <;> exact wkA
 have hl2 : l.length ≤ 64 := by rcases hn with rfl | rfl <;> omega
 unfold Xb9
 have hc : (sel (n != 4) (sel (n != 8) (some true) (some ((l.length : Int) != (Xaa .i64 (n * n))))) (some ((l.length : Int) != (Xaa .i64 (n * n))))) = some false := by
  rw [hw, hl, bne_self_eq_false]
  rcases hn with rfl | rfl <;> rfl
 rw [hc, Xad, Xav, rqA, Int.toNat_natCast]
 obtain ⟨o, e, h1, h2⟩ := Xdy (f := Xbp n l) l.length (fun i s => s.length = l.length ∧ inB B s) (by
  intro i s hi ⟨g1, g2⟩
  have hp := Xjo n hn i (by omega)
  have ha := Xmb hb hi
  unfold Xbp
  simp only
  rw [hw, syA, Xj1 n hn i (by omega), Xad, rqA, rqA, rqA, wkA, Int.toNat_natCast]
  exact ⟨_, rfl, by rw [List.length_set]; exact g1, Ydq g2 _ ha⟩) (by intro s; unfold Xbp; simp only; rw [hw, snA]) (List.replicate l.length 0) ⟨List.length_replicate, Ydp _ hB⟩
 exact ⟨o, (Xfl e).trans rfl, h1, h2⟩
def Xfv (u v : Int) : Int := match it Xfx 10 (1, (IntKind.wrap .i64 (BitVec.ofInt (IntKind.bits .i64) u &&& BitVec.ofInt (IntKind.bits .i64) v).toNat)) with | some q => q | none => 7
theorem Yhk : ∀ u v : Fin 8, (-1 ≤ Xfv (u.val : Int) (v.val : Int) ∧ Xfv (u.val : Int) (v.val : Int) ≤ 1) := by decide +kernel
theorem Xns (u v : Nat) (hu : u < 8) (hv : v < 8) : ∃ s, Xe1 u v = some s ∧ -1 ≤ s ∧ s ≤ 1 := by
 have h := Yhk ⟨u, hu⟩ ⟨v, hv⟩
 simp only at h
 unfold Xe1
 rw [Xai, Xad, decide_eq_true (by omega), Xau, Xai, Xad, decide_eq_true (by omega), Bool.not_true, Xad, Xav]
 unfold Xfv at h
 cases e : it Xfx 10 (1, (IntKind.wrap .i64 (BitVec.ofInt (IntKind.bits .i64) (u : Int) &&& BitVec.ofInt (IntKind.bits .i64) (v : Int)).toNat)) with
 | none => rw [e] at h; simp only at h; omega
 | some q =>
  rw [e] at h
  rw [Xfi.2 ⟨10, e⟩, Xad]
  exact ⟨q, rfl, h⟩
def Xle (qp : Int) : Int := if qp.tmod 6 = 0 then 10 else if qp.tmod 6 = 1 then 11 else if qp.tmod 6 = 2 then 13 else if qp.tmod 6 = 3 then 14 else if qp.tmod 6 = 4 then 16 else 18
def Xjh (qp : Int) : Int := match it (Xfy qp) 10 (Xle qp, 0) with | some q => q | none => 0
theorem Yho : ∀ q : Fin 41, (10 ≤ Xjh (q.val : Int) ∧ Xjh (q.val : Int) ≤ 1152) := by decide +kernel
theorem Xyc (qp : Int) (h0 : 0 ≤ qp ∧ qp ≤ 40) : ∃ s, Xe2 qp = some s ∧ 10 ≤ s ∧ s ≤ 1152 := by
 have h := Yho ⟨qp.toNat, by omega⟩
 simp only at h
 rw [show ((qp.toNat : Nat) : Int) = qp by omega] at h
 unfold Xe2
 rw [Xai, Xad, decide_eq_true (by omega), Bool.not_true, Xav, rqA]
 have hb : (sel ((qp.tmod 6) == 0) (some (10 : Int)) (sel ((qp.tmod 6) == 1) (some 11) (sel ((qp.tmod 6) == 2) (some 13) (sel ((qp.tmod 6) == 3) (some 14) (sel ((qp.tmod 6) == 4) (some 16) (some 18)))))) = some (Xle qp) := by
  unfold Xle
  simp only [Yd4, beq_iff_eq]
  repeat' split
  all_goals rfl
 rw [hb, Xad]
 unfold Xjh at h
 cases e : it (Xfy qp) 10 (Xle qp, 0) with
 | none => rw [e] at h; simp only at h; omega
 | some q =>
  rw [e] at h
  rw [Xfi.2 ⟨10, e⟩, Xad]
  exact ⟨q, rfl, h⟩
theorem Xnp (p : Int) (h : 0 ≤ p ∧ p ≤ 15) : ∃ k, Xhm p = some k ∧ 0 ≤ k ∧ k ≤ 2 := by
 unfold Xhm
 rw [Xai, Xad, decide_eq_true h, Bool.not_true, Xav, rqA, rqA, rqA, rqA, Xfj, Xad]
 cases ((Xaa .i64 (p.tdiv 4)).tmod 2 == 0 && (p.tmod 4).tmod 2 == 0) with
 | true => exact ⟨0, rfl, by omega, by omega⟩
 | false =>
  rw [Xav, Xfj, Xad]
  cases ((Xaa .i64 (p.tdiv 4)).tmod 2 == 1 && (p.tmod 4).tmod 2 == 1) with
  | true => exact ⟨1, rfl, by omega, by omega⟩
  | false => exact ⟨2, rfl, by omega, by omega⟩
theorem Xba (k a b c : Int) : ∃ x, Xbb k a b c = some x ∧ (x = a ∨ x = b ∨ x = c) := by
 unfold Xbb
 cases (k == 0) with
 | true => exact ⟨a, rfl, Or.inl rfl⟩
 | false =>
  cases (k == 1) with
  | true => exact ⟨b, rfl, Or.inr (Or.inl rfl)⟩
  | false => exact ⟨c, rfl, Or.inr (Or.inr rfl)⟩
theorem Yfu (qp : Int) (h0 : 0 ≤ qp ∧ qp ≤ 40) (x : Int) (hx : 0 ≤ x ∧ x ≤ 29) : ∃ o, loop (Xc3 qp) (x, 0) = some o ∧ 0 ≤ o ∧ o ≤ 1856 := by
 obtain ⟨o, e, h1, h2⟩ := Xjj (f := Xc3 qp) (qp / 6).toNat (fun i s => 0 ≤ s ∧ s ≤ 29 * 2 ^ i) (by
  intro i s hi ⟨g1, g2⟩
  have h6 : (2 : Int) ^ i ≤ 64 := by
   have : i ≤ 6 := by omega
   obtain rfl | rfl | rfl | rfl | rfl | rfl | rfl : i = 0 ∨ i = 1 ∨ i = 2 ∨ i = 3 ∨ i = 4 ∨ i = 5 ∨ i = 6 := by omega
   all_goals decide
  have h7 : (2 : Int) ^ (i + 1) = 2 * 2 ^ i := by rw [Int.pow_succ, Int.mul_comm]
  unfold Xc3
  simp only
  rw [rqA, Xbk (by omega), wkA (e := qp / 6), syA, wkA (e := 2 * s), wkA (e := (i : Int) + 1)]
  exact ⟨_, rfl, by omega, by rw [h7]; omega⟩) (by intro s; unfold Xc3; simp only; rw [rqA, Xbk (by omega), wkA (e := qp / 6), snA]) x ⟨hx.1, by simp; omega⟩
 have h6 : (2 : Int) ^ (qp / 6).toNat ≤ 64 := by
  generalize hi : (qp / 6).toNat = i
  obtain rfl | rfl | rfl | rfl | rfl | rfl | rfl : i = 0 ∨ i = 1 ∨ i = 2 ∨ i = 3 ∨ i = 4 ∨ i = 5 ∨ i = 6 := by omega
  all_goals decide
 exact ⟨o, e, h1, by omega⟩
theorem Xv9 (qp p : Int) (h0 : 0 ≤ qp ∧ qp ≤ 40) (hp : 0 ≤ p ∧ p ≤ 15) : ∃ s, Xe0 qp p = some s ∧ 0 ≤ s ∧ s ≤ 1856 := by
 unfold Xe0
 obtain ⟨k, e, k0, k1⟩ := Xnp p hp
 rw [e, Xad, Xai, Xad, decide_eq_true h0, Xau, decide_eq_false (by omega), Xad, Xav, rqA]
 obtain ⟨a1, e1, b1⟩ := Xba k 10 16 13
 obtain ⟨a2, e2, b2⟩ := Xba k 11 18 14
 obtain ⟨a3, e3, b3⟩ := Xba k 13 20 16
 obtain ⟨a4, e4, b4⟩ := Xba k 14 23 18
 obtain ⟨a5, e5, b5⟩ := Xba k 16 25 20
 obtain ⟨a6, e6, b6⟩ := Xba k 18 29 23
 rw [e1, e2, e3, e4, e5, e6]
 simp only [Xad, Yhj]
 obtain ⟨o, eo, o1, o2⟩ := Yfu qp h0 (sel (qp.tmod 6 == 0) a1 (sel (qp.tmod 6 == 1) a2 (sel (qp.tmod 6 == 2) a3 (sel (qp.tmod 6 == 3) a4 (sel (qp.tmod 6 == 4) a5 (sel (qp.tmod 6 == 5) a6 0)))))) (by
  simp only [Yd4]
  repeat' split
  all_goals omega)
 exact ⟨o, (Xfl eo).trans rfl, o1, o2⟩
theorem Yez {a s B : Int} (ha : -B ≤ a ∧ a ≤ B) (hs : -1 ≤ s ∧ s ≤ 1) : (-B ≤ a * s ∧ a * s ≤ B) ∧ (-B ≤ s * a ∧ s * a ≤ B) := by
 obtain rfl | rfl | rfl : s = -1 ∨ s = 0 ∨ s = 1 := by omega
 all_goals omega
theorem Xyj (p : List Int) (B : Int) (hB : 0 ≤ B ∧ B ≤ 1000000000000) (hl : p.length = 64) (hb : inB B p) (i v : Nat) (hi : i < 8) (hv : v < 8) : ∃ o, Xf6 p i v = some o ∧ -(8 * B) ≤ o ∧ o ≤ 8 * B := by
 unfold Xf6
 obtain ⟨o, e, h1, h2⟩ := Xjj (f := Xcu p i v) 8 (fun k s => -(B * k) ≤ s ∧ s ≤ B * k) (by
  intro k s hk ⟨g1, g2⟩
  obtain ⟨q, eq, q0, q1⟩ := Xns v k hv hk
  have ha := Xmb hb (i := 8 * i + k) (by omega)
  have hm := (Yez ha ⟨q0, q1⟩).1
  have hk8 : B * k ≤ B * 8 := Int.mul_le_mul_of_nonneg_left (by omega) hB.1
  have hk0 : B * ((k + 1 : Nat) : Int) = B * k + B := by rw [Int.natCast_add, Int.mul_add]; simp
  unfold Xcu
  simp only
  rw [syA, wkA (e := 8 * (i : Int)), wkA (e := 8 * (i : Int) + (k : Int)), rqA, eq, Xad, show (8 * (i : Int) + (k : Int)).toNat = 8 * i + k by omega, wkA (e := p.getD (8 * i + k) 0 * q), wkA (e := s + p.getD (8 * i + k) 0 * q), wkA (e := (k : Int) + 1)]
  exact ⟨_, rfl, by rw [hk0]; omega, by rw [hk0]; omega⟩) (by intro s; unfold Xcu; rw [Xaz (by simp)]) 0 (by simp)
 exact ⟨o, (Xfl e).trans rfl, by omega, by omega⟩
theorem Xwm (p : List Int) (B : Int) (hB : 0 ≤ B ∧ B ≤ 10000000000) (hl : p.length = 64) (hb : inB B p) : ∃ o, Xe5 p = some o ∧ o.length = 64 ∧ inB (64 * B) o := by
 have hm : maxLen = 9223372036854775807 := rfl
 unfold Xe5
 obtain ⟨h, eh, hh1, hh2⟩ := Xdy (f := Xb2 p) 8 (fun i s => s.length = 8 * i ∧ inB (8 * B) s) (by
  intro i s hi ⟨g1, g2⟩
  obtain ⟨t, et, t1, t2⟩ := Xdy (f := Xb3 p ((i : Int), s)) 8 (fun v s => s.length = 8 * i + v ∧ inB (8 * B) s) (by
   intro v s hv ⟨g1, g2⟩
   obtain ⟨r, er, r1, r2⟩ := Xyj p B ⟨hB.1, by omega⟩ hl hb i v hi hv
   unfold Xb3
   simp only
   rw [syA, er, Xad, Xby (by simp only [List.length_singleton]; omega), wkA (e := (v : Int) + 1)]
   exact ⟨_, rfl, by simp; omega, Xq0 g2 (Ygo ⟨by omega, r2⟩)⟩) (by intro s; unfold Xb3; rw [Xaz (by simp)]) s ⟨by omega, g2⟩
  unfold Xb2
  simp only
  rw [syA, et, Xad, wkA (e := (i : Int) + 1)]
  exact ⟨_, rfl, by omega, t2⟩) (by intro s; unfold Xb2; rw [Xaz (by simp)]) [] ⟨rfl, Ydo _⟩
 rw [eh, Xad]
 obtain ⟨o, eo, o1, o2⟩ := Xdy (f := Xbq h) 8 (fun i s => s.length = 8 * i ∧ inB (64 * B) s) (by
  intro i s hi ⟨g1, g2⟩
  obtain ⟨t, et, t1, t2⟩ := Xdy (f := Xbr h ((i : Int), s)) 8 (fun v s => s.length = 8 * i + v ∧ inB (64 * B) s) (by
   intro v r hv ⟨g1, g2⟩
   obtain ⟨a, ea, a1, a2⟩ := Xjj (f := Xbs h ((i : Int), s) ((v : Int), r)) 8 (fun k s => -(8 * B * k) ≤ s ∧ s ≤ 8 * B * k) (by
    intro k c hk ⟨g1, g2⟩
    obtain ⟨q, eq, q0, q1⟩ := Xns i k hi hk
    have ha := Xmb hh2 (i := 8 * k + v) (by omega)
    have hm := (Yez ha ⟨q0, q1⟩).2
    have hk8 : 8 * B * k ≤ 8 * B * 8 := Int.mul_le_mul_of_nonneg_left (by omega) (by omega)
    have hk0 : 8 * B * ((k + 1 : Nat) : Int) = 8 * B * k + 8 * B := by rw [Int.natCast_add, Int.mul_add]; simp
    unfold Xbs
    simp only
    rw [syA, eq, Xad, wkA (e := 8 * (k : Int)), wkA (e := 8 * (k : Int) + (v : Int)), rqA, rqA, show (8 * (k : Int) + (v : Int)).toNat = 8 * k + v by omega, wkA (e := q * h.getD (8 * k + v) 0), wkA (e := c + q * h.getD (8 * k + v) 0), wkA (e := (k : Int) + 1)]
    exact ⟨_, rfl, by rw [hk0]; omega, by rw [hk0]; omega⟩) (by intro s; unfold Xbs; rw [Xaz (by simp)]) 0 (by simp)
   unfold Xbr
   simp only
   rw [syA, ea, Xad, Xby (by simp only [List.length_singleton]; omega), wkA (e := (v : Int) + 1)]
   exact ⟨_, rfl, by simp; omega, Xq0 g2 (Ygo ⟨by omega, by omega⟩)⟩) (by intro s; unfold Xbr; rw [Xaz (by simp)]) s ⟨by omega, g2⟩
  unfold Xbq
  simp only
  rw [syA, et, Xad, wkA (e := (i : Int) + 1)]
  exact ⟨_, rfl, by omega, t2⟩) (by intro s; unfold Xbq; rw [Xaz (by simp)]) [] ⟨rfl, Ydo _⟩
 exact ⟨o, (Xfl eo).trans rfl, by omega, o2⟩
theorem Xg7 (a b : Int) (ha : -1000000000000 ≤ a ∧ a ≤ 1000000000000) (hb : b = 2 ∨ b = 64) : ∃ d, Xb1 a b = some d ∧ b * d ≤ a ∧ a < b * d + b := by
 unfold Xb1
 have h1 : b * (a.tdiv b) + a.tmod b = a := Int.mul_tdiv_add_tmod a b
 have h2 : -b < a.tmod b ∧ a.tmod b < b := by
  have hb0 : 0 < b := by omega
  refine ⟨?_, Int.tmod_lt_of_pos a hb0⟩
  have := Int.lt_tmod_of_pos a hb0
  omega
 rw [rqA, rqA]
 generalize a.tmod b = m at h1 h2
 generalize a.tdiv b = t at h1 h2
 have ht : -1000000000001 ≤ t ∧ t ≤ 1000000000001 := by rcases hb with rfl | rfl <;> omega
 by_cases h : m < 0
 ·
  rw [Xeu h, Xad, wkA (e := t), wkA (e := t - 1)]
  refine ⟨_, rfl, ?_⟩
  rcases hb with rfl | rfl <;> omega
 ·
  rw [Xaz h, Xad, wkA (e := t)]
  refine ⟨_, rfl, ?_⟩
  rcases hb with rfl | rfl <;> omega
theorem Xq6 (p : List Int) (hl : p.length = 64) (hb : inB 5760000 p) : ∃ o, Xdi p = some o ∧ o.length = 64 ∧ inB 10000000 o := by
 unfold Xdi
 obtain ⟨o, e, h1, h2⟩ := Xwm p 5760000 (by omega) hl hb
 rw [Xgd p 64 10000000 (by omega) (by omega) (by omega) (Xz6 hb (by omega)), Xad, Bool.not_true, Xav, e, Xad]
 obtain ⟨r, er, r1, r2⟩ := Xmy (f := Xdu) 64 (fun x => -368640000 ≤ x ∧ x ≤ 368640000) (fun x => -10000000 ≤ x ∧ x ≤ 10000000) (by
  intro i l hi hll hx
  obtain ⟨d, ed, d1, d2⟩ := Xg7 (l.getD i 0 + 32) 64 (by omega) (Or.inr rfl)
  unfold Xdu
  simp only [Int.toNat_natCast]
  rw [syA, rqA, rqA, wkA (e := l.getD i 0 + 32), ed, Xad, rqA, rqA, wkA (e := (i : Int) + 1)]
  exact ⟨d, rfl, by omega, by omega⟩) (by intro s; unfold Xdu; rw [Xaz (by simp)]) o h1 (fun x hx => by have := h2 x hx; omega)
 exact ⟨r, (Xfl er).trans rfl, r1, r2⟩
theorem Xmn (p : List Int) (B : Int) (hB : 0 ≤ B) (hl : p.length = 16) (hb : inB B p) : ∃ o, Xd2 p = some o ∧ o.length = 16 ∧ inB B o := by
 unfold Xd2
 rw [rqA]
 obtain ⟨o, e, h1, h2⟩ := Xdy (f := Xcg p) 16 (fun i s => s.length = 16 ∧ inB B s) (by
  intro i s hi ⟨g1, g2⟩
  have ha := Xmb hb (i := i) (by omega)
  unfold Xcg
  simp only
  rw [syA, rqA, rqA, rqA, Xci (by omega), Xbk (by omega), wkA (e := (i : Int) / 4), wkA (e := (i : Int) % 4 * 4), wkA (e := (i : Int) % 4 * 4 + (i : Int) / 4), rqA, rqA, wkA (e := (i : Int) + 1), Int.toNat_natCast]
  exact ⟨_, rfl, by rw [List.length_set]; exact g1, Ydq g2 _ ha⟩) (by intro s; unfold Xcg; rw [Xaz (by simp)]) (List.replicate (16 : Int).toNat 0) ⟨by simp, Ydp _ hB⟩
 exact ⟨o, (Xfl e).trans rfl, h1, h2⟩
theorem Yij {B a b c d : Int} (h1 : -B ≤ a ∧ a ≤ B) (h2 : -B ≤ b ∧ b ≤ B) (h3 : -B ≤ c ∧ c ≤ B) (h4 : -B ≤ d ∧ d ≤ B) : inB B [a, b, c, d] := fun x hx => by
 simp only [List.mem_cons, List.not_mem_nil, or_false] at hx
 rcases hx with rfl | rfl | rfl | rfl
 ·
  exact h1
 ·
  exact h2
 ·
  exact h3
 ·
  exact h4
theorem Xlp (p : List Int) (B : Int) (hB : 0 ≤ B ∧ B ≤ 1000000000) (hl : p.length = 16) (hb : inB B p) : ∃ o, Xdc p = some o ∧ o.length = 16 ∧ inB (4 * B + 2) o := by
 have hm : maxLen = 9223372036854775807 := rfl
 unfold Xdc
 obtain ⟨o, e, h1, h2⟩ := Xdy (f := Xb0 p) 4 (fun i s => s.length = 4 * i ∧ inB (4 * B + 2) s) (by
  intro i s hi ⟨g1, g2⟩
  have a0 := Xmb hb (i := 4 * i) (by omega)
  have a1 := Xmb hb (i := 4 * i + 1) (by omega)
  have a2 := Xmb hb (i := 4 * i + 2) (by omega)
  have a3 := Xmb hb (i := 4 * i + 3) (by omega)
  obtain ⟨f, ef, f1, f2⟩ := Xg7 (p.getD (4 * i + 1) 0) 2 (by omega) (Or.inl rfl)
  obtain ⟨g, eg, g1', g2'⟩ := Xg7 (p.getD (4 * i + 3) 0) 2 (by omega) (Or.inl rfl)
  unfold Xb0
  simp only
  rw [syA, wkA (e := 4 * (i : Int)), wkA (e := 4 * (i : Int) + 1), wkA (e := 4 * (i : Int) + 2), wkA (e := 4 * (i : Int) + 3), rqA, rqA, rqA, rqA, show (4 * (i : Int)).toNat = 4 * i by omega, show (4 * (i : Int) + 1).toNat = 4 * i + 1 by omega, show (4 * (i : Int) + 2).toNat = 4 * i + 2 by omega, show (4 * (i : Int) + 3).toNat = 4 * i + 3 by omega, ef, Xad, eg, Xad]
  generalize p.getD (4 * i) 0 = a at *
  generalize p.getD (4 * i + 1) 0 = b at *
  generalize p.getD (4 * i + 2) 0 = c at *
  generalize p.getD (4 * i + 3) 0 = d at *
  rw [wkA (e := (i : Int) + 1), wkA (e := a + c), wkA (e := a - c), wkA (e := b + g), wkA (e := f - d), wkA (e := a + c + (b + g)), wkA (e := a - c + (f - d)), wkA (e := a - c - (f - d)), wkA (e := a + c - (b + g)), Xby (by simp only [List.length_cons, List.length_nil]; omega)]
  exact ⟨_, rfl, by simp; omega, Xq0 g2 (Yij (by omega) (by omega) (by omega) (by omega))⟩) (by intro s; unfold Xb0; rw [Xaz (by simp)]) [] ⟨rfl, Ydo _⟩
 exact ⟨o, (Xfl e).trans rfl, h1, h2⟩
theorem Xll (p : List Int) (hl : p.length = 16) (hb : inB 10000000 p) : ∃ o, Xd8 p = some o ∧ o.length = 16 ∧ inB 10000000 o := by
 unfold Xd8
 obtain ⟨a, ea, a1, a2⟩ := Xlp p 10000000 (by omega) hl hb
 obtain ⟨b, eb, b1, b2⟩ := Xmn a _ (by omega) a1 a2
 obtain ⟨c, ec, c1, c2⟩ := Xlp b _ (by omega) b1 b2
 obtain ⟨d, ed, d1, d2⟩ := Xmn c _ (by omega) c1 c2
 rw [Xgd p 16 10000000 (by omega) (by omega) (by omega) hb, Xad, Bool.not_true, Xav, ea, Xad, eb, Xad, ec, Xad, ed, Xad]
 obtain ⟨r, er, r1, r2⟩ := Xmy (f := Xed) 16 (fun x => -160000010 ≤ x ∧ x ≤ 160000010) (fun x => -10000000 ≤ x ∧ x ≤ 10000000) (by
  intro i l hi hll hx
  obtain ⟨d, ed, d1, d2⟩ := Xg7 (l.getD i 0 + 32) 64 (by omega) (Or.inr rfl)
  unfold Xed
  simp only [Int.toNat_natCast]
  rw [syA, rqA, rqA, wkA (e := l.getD i 0 + 32), ed, Xad, rqA, rqA, wkA (e := (i : Int) + 1)]
  exact ⟨d, rfl, by omega, by omega⟩) (by intro s; unfold Xed; rw [Xaz (by simp)]) d d1 (fun x hx => by have := d2 x hx; omega)
 exact ⟨r, (Xfl er).trans rfl, r1, r2⟩
theorem Xkn (l qp p : Int) (hl : -5000 ≤ l ∧ l ≤ 5000) (h0 : 0 ≤ qp ∧ qp ≤ 40) (hp : 0 ≤ p ∧ p ≤ 15) : ∃ o, Xdl l qp p = some o ∧ -10000000 ≤ o ∧ o ≤ 10000000 := by
 unfold Xdl
 obtain ⟨s, es, q0, q1⟩ := Xv9 qp p h0 hp
 rw [Xai, Xad, decide_eq_true hl, Bool.not_true, Xav, es, Xad]
 have m1 : l * s ≤ 5000 * s := Int.mul_le_mul_of_nonneg_right hl.2 q0
 have m2 : -5000 * s ≤ l * s := Int.mul_le_mul_of_nonneg_right hl.1 q0
 rw [wkA]
 exact ⟨_, rfl, by omega, by omega⟩
theorem Xkj (l qp : Int) (hl : -5000 ≤ l ∧ l ≤ 5000) (h0 : 0 ≤ qp ∧ qp ≤ 40) : ∃ o, Xdk l qp = some o ∧ -5760000 ≤ o ∧ o ≤ 5760000 := by
 unfold Xdk
 obtain ⟨s, es, q0, q1⟩ := Xyc qp h0
 rw [Xai, Xad, decide_eq_true hl, Bool.not_true, Xav, es, Xad]
 have m1 : l * s ≤ 5000 * s := Int.mul_le_mul_of_nonneg_right hl.2 (by omega)
 have m2 : -5000 * s ≤ l * s := Int.mul_le_mul_of_nonneg_right hl.1 (by omega)
 rw [wkA]
 exact ⟨_, rfl, by omega, by omega⟩
theorem Ygy {l : List Int} (h : Yfm l = true) : l.length = 64 ∧ inB 5000 l := by
 obtain ⟨h1, h2⟩ := Yfn h
 refine ⟨h1, fun x hx => ?_⟩
 have := List.all_eq_true.1 h2 x hx
 unfold Yk1 at this
 rwa [decide_eq_true_eq] at this
theorem Ybr {c : Xf8} (h : Xgl c = true) : 0 ≤ c.Qp ∧ c.Qp ≤ 40 := by
 unfold Xgl at h
 rw [Bool.and_eq_true, decide_eq_true_eq] at h
 exact h.1
theorem Xjq (p : List Int) (c : Xf8) (hc : Xgl c = true) (hp : Yfm p = true) : ∃ o, Xcf p c = some (o, true) ∧ o.length = 64 ∧ inB 10000000 o := by
 have hm : maxLen = 9223372036854775807 := rfl
 have hq := Ybr hc
 obtain ⟨hl, hb⟩ := Ygy hp
 unfold Xcf
 rw [Xdh, Xad, hc, Xau, Xgd p 64 5000 (by omega) (by omega) (by omega) hb, Xad, Bool.not_true, Xad, Xav]
 cases hE : c.Exact with
 | true =>
  obtain ⟨o, e, h1, h2⟩ := Xdv 8 (Or.inr rfl) p 5000 (by omega) (by omega) hb
  rw [Xau, e, Xad]
  exact ⟨o, rfl, by omega, Xz6 h2 (by omega)⟩
 | false =>
  rw [Xav]
  cases hL : c.Large with
  | true =>
   obtain ⟨w, ew, w1, w2⟩ := Xdv 8 (Or.inr rfl) p 5000 (by omega) (by omega) hb
   obtain ⟨l, el, l1, l2⟩ := Xmy (f := Xa6 c) 64 (fun x => -5000 ≤ x ∧ x ≤ 5000) (fun x => -5760000 ≤ x ∧ x ≤ 5760000) (by
    intro i l hi hll hx
    obtain ⟨d, ed, d1, d2⟩ := Xkj (l.getD i 0) c.Qp hx hq
    unfold Xa6
    simp only [Int.toNat_natCast]
    rw [syA, rqA, rqA, ed, Xad, rqA, rqA, wkA (e := (i : Int) + 1)]
    exact ⟨d, rfl, d1, d2⟩) (by intro s; unfold Xa6; rw [Xaz (by simp)]) w (by omega) w2
   obtain ⟨o, e, h1, h2⟩ := Xq6 l l1 l2
   rw [Xau, ew, Xad, el, Xad, e, Xad]
   exact ⟨o, rfl, h1, h2⟩
  | false =>
   obtain ⟨o, eo, o1, o2⟩ := Xdy (f := Xbm p c) 4 (fun k s => s.length = 64 ∧ inB 10000000 s) (by
    intro k s hk ⟨g1, g2⟩
    have hcut : ((p.drop (16 * k)).take 16).length = 16 := by rw [List.length_take, List.length_drop]; omega
    obtain ⟨a, ea, a1, a2⟩ := Xdv 4 (Or.inl rfl) ((p.drop (16 * k)).take 16) 5000 (by omega) (by omega) (Yen (Yem hb _) _)
    obtain ⟨l, el, l1, l2⟩ := Xmy (f := Xa3 c) 16 (fun x => -5000 ≤ x ∧ x ≤ 5000) (fun x => -10000000 ≤ x ∧ x ≤ 10000000) (by
     intro i l hi hll hx
     obtain ⟨d, ed, d1, d2⟩ := Xkn (l.getD i 0) c.Qp i hx hq (by omega)
     unfold Xa3
     simp only [Int.toNat_natCast]
     rw [syA, rqA, rqA, ed, Xad, rqA, rqA, wkA (e := (i : Int) + 1)]
     exact ⟨d, rfl, d1, d2⟩) (by intro s; unfold Xa3; rw [Xaz (by simp)]) a (by omega) a2
    obtain ⟨b, eb, b1, b2⟩ := Xll l l1 l2
    obtain ⟨r, er, r1, r2⟩ := Xdy (f := Xa7 ((k : Int), s) b) 16 (fun i s => s.length = 64 ∧ inB 10000000 s) (by
     intro i s hi ⟨g1, g2⟩
     have ha := Xmb b2 (i := i) (by omega)
     unfold Xa7
     simp only
     rw [syA, rqA, rqA, rqA, rqA, rqA, rqA, Xbk (a := (k : Int)) (by omega), Xbk (a := (i : Int)) (by omega), Xci (a := (k : Int)) (by omega), Xci (a := (i : Int)) (by omega), wkA (e := (k : Int) / 2), wkA (e := (k : Int) / 2 * 4), wkA (e := (i : Int) / 4), wkA (e := (k : Int) / 2 * 4 + (i : Int) / 4), wkA (e := 8 * ((k : Int) / 2 * 4 + (i : Int) / 4)), wkA (e := (k : Int) % 2 * 4), wkA (e := 8 * ((k : Int) / 2 * 4 + (i : Int) / 4) + (k : Int) % 2 * 4), wkA (e := 8 * ((k : Int) / 2 * 4 + (i : Int) / 4) + (k : Int) % 2 * 4 + (i : Int) % 4), rqA, rqA, wkA (e := (i : Int) + 1), Int.toNat_natCast]
     exact ⟨_, rfl, by rw [List.length_set]; exact g1, Ydq g2 _ ha⟩) (by intro s; unfold Xa7; rw [Xaz (by simp)]) s ⟨g1, g2⟩
    unfold Xbm
    simp only
    rw [syA, wkA (e := 16 * (k : Int)), wkA (e := 16 * (k : Int) + 16), rqA, show (16 * (k : Int)).toNat = 16 * k by omega, show (16 * (k : Int) + 16).toNat - 16 * k = 16 by omega, ea, Xad, el, Xad, eb, Xad, er, Xad, wkA (e := (k : Int) + 1)]
    exact ⟨_, rfl, r1, r2⟩) (by intro s; unfold Xbm; rw [Xaz (by simp)]) (List.replicate (64 : Int).toNat 0) ⟨by simp, Ydp _ (by omega)⟩
   rw [Xav, rqA, eo, Xad]
   exact ⟨o, rfl, o1, o2⟩
theorem Xlu (l : List Int) (h : Xi3 l = true) : Xid l = some true := by
 obtain ⟨h1, h2⟩ := Xl4 h
 unfold Xid
 rw [Xbw (by simp only [bne_eq_false_iff_eq]; omega), Xvo l.length (f := Xe7 l) (by
  intro i hi
  have := h2 i (by omega)
  unfold Xe7
  rw [syA, rqA, Xai, Xad, Int.toNat_natCast, decide_eq_true this, Bool.not_true, Xav, wkA]
  rfl) (by unfold Xe7; rw [snA]), Xad]
theorem Ybu {l : List Int} (h1 : l.length = 64) (h2 : ∀ x ∈ l, 0 ≤ x ∧ x ≤ 255) : Xi3 l = true := by
 unfold Xi3
 rw [Bool.and_eq_true, decide_eq_true_eq, List.all_eq_true]
 exact ⟨h1, fun x hx => by unfold Yic; rw [decide_eq_true_eq]; exact h2 x hx⟩
theorem Xno (g b : List Int) (hg : Xi3 g = true) (hl : b.length = 64) (hb : inB 10000000 b) : ∃ o, Xez g b = some o ∧ Xi3 o = true := by
 have hm : maxLen = 9223372036854775807 := rfl
 obtain ⟨g1, g2⟩ := Xl4 hg
 unfold Xez
 rw [Xlu g hg, Xad, Xau, Xgd b 64 10000000 (by omega) (by omega) (by omega) hb, Xad, Bool.not_true, Xad, Xav]
 obtain ⟨o, e, h1, h2⟩ := Xdy (f := Xdj g b) 64 (fun i s => s.length = i ∧ ∀ x ∈ s, 0 ≤ x ∧ x ≤ 255) (by
  intro i s hi ⟨k1, k2⟩
  have ha := Xmb hb (i := i) (by omega)
  have hd := g2 i hi
  have br := Xiv (n := g.getD i 0 + b.getD i 0) (a := 0) (b := 255) (by omega)
  unfold Xdj
  simp only [Int.toNat_natCast]
  rw [syA, rqA, rqA, wkA (e := g.getD i 0 + b.getD i 0), Xds, Xad, Xby (by simp only [List.length_singleton]; omega), wkA (e := (i : Int) + 1)]
  refine ⟨_, rfl, by simp; omega, fun x hx => ?_⟩
  rcases List.mem_append.1 hx with hx | hx
  ·
   exact k2 x hx
  ·
   rw [List.mem_singleton.1 hx]; exact br) (by intro s; unfold Xdj; rw [Xaz (by simp)]) [] ⟨rfl, fun x hx => by simp at hx⟩
 exact ⟨o, (Xfl e).trans rfl, Ybu h1 h2⟩
def Xrm (e : Xha) : Prop := (e.Above.length = 0 ∨ e.Above.length = 8) ∧ (e.Left.length = 0 ∨ e.Left.length = 8) ∧ (∀ x ∈ e.Above, 0 ≤ x ∧ x ≤ 255) ∧ (∀ x ∈ e.Left, 0 ≤ x ∧ x ≤ 255) ∧ -1 ≤ e.Corner ∧ e.Corner ≤ 255
theorem Xtb {p : Pic} (ok : Xdn p = true) (x y : Int) : Xbt p x y 8 8 = some (Xhz p x y) := by
 obtain ⟨k1, k2, k3⟩ := Xbl ok
 unfold Xbt Xhz
 rw [Xg3, Xad, ok, Xau, Xai, Xad, Xai, Xad, wkA (e := p.Wide - 8), wkA (e := p.High - 8), Xai, Xad, Xai, Xad]
 simp only [Xfj, Xad]
 congr 1
 rw [Bool.eq_iff_iff]
 simp only [Bool.and_eq_true, decide_eq_true_eq]
 omega
theorem Xik {p : Pic} (ok : Xdn p = true) {x y : Int} (hx : x.tmod 8 = 0) (hy : y.tmod 8 = 0) (h : Xhz p x y = true) : Xgg p x y = some true := by
 unfold Xgg
 rw [rqA, hx, rqA, hy, Xtb ok, Xad, h]
 rfl
theorem Xvw {p : Pic} (ok : Xdn p = true) {x y : Int} (hx : x.tmod 8 = 0) (hy : y.tmod 8 = 0) (h : Xhz p x y = true) : ∃ e, Xey p x y = some (e, true) ∧ Xrm e := by
 have hm : maxLen = 9223372036854775807 := rfl
 obtain ⟨k1, k2, k3⟩ := Xbl ok
 have h' := h
 unfold Xhz at h'
 rw [decide_eq_true_eq] at h'
 unfold Xey
 rw [Xik ok hx hy h, Xad, Bool.not_true, Xav]
 obtain ⟨o, e, o1, o2, o3, o4, o5, o6⟩ := Xdy (f := Xc2 p x y) 8 (fun i s => (y > 0 → s.1.length = i) ∧ (¬ y > 0 → s.1.length = 0) ∧ (x > 0 → s.2.length = i) ∧ (¬ x > 0 → s.2.length = 0) ∧ (∀ z ∈ s.1, 0 ≤ z ∧ z ≤ 255) ∧ (∀ z ∈ s.2, 0 ≤ z ∧ z ≤ 255)) (by
  intro i s hi ⟨g1, g2, g3, g4, g5, g6⟩
  obtain ⟨a, b⟩ := s
  simp only at g1 g2 g3 g4 g5 g6
  have d1 := Xku p (x + i) (y - 1)
  have d2 := Xku p (x - 1) (y + i)
  have st1 : ∃ a', (sel (decide (y > 0)) (bnd (Xdt p (Xaa .i64 (x + (i : Int))) (Xaa .i64 (y - 1))) fun q16 => req ((a.length + ([q16]).length) * 8 ≤ 140737488355328 ∧ a.length + ([q16]).length ≤ maxLen) <| some (a ++ ([q16]))) (some a)) = some a' ∧ (y > 0 → a'.length = i + 1) ∧ (¬ y > 0 → a'.length = 0) ∧ (∀ z ∈ a', 0 ≤ z ∧ z ≤ 255) := by
   by_cases c : y > 0
   ·
    rw [Xeu c, wkA (e := x + (i : Int)), wkA (e := y - 1), Xg2 ok, Xad, Xby (by simp only [List.length_singleton]; have := g1 c; omega)]
    refine ⟨_, rfl, fun _ => by simp; exact g1 c, fun hn => absurd c hn, fun z hz => ?_⟩
    rcases List.mem_append.1 hz with hz | hz
    ·
     exact g5 z hz
    ·
     rw [List.mem_singleton.1 hz]; exact d1
   ·
    rw [Xaz c]
    exact ⟨_, rfl, fun hn => absurd hn c, fun _ => g2 c, g5⟩
  obtain ⟨a', ea, a1, a2, a3⟩ := st1
  have st2 : ∃ b', (sel (decide (x > 0)) (bnd (Xdt p (Xaa .i64 (x - 1)) (Xaa .i64 (y + (i : Int)))) fun q17 => req ((b.length + ([q17]).length) * 8 ≤ 140737488355328 ∧ b.length + ([q17]).length ≤ maxLen) <| some (a', (b ++ ([q17])))) (some (a', b))) = some (a', b') ∧ (x > 0 → b'.length = i + 1) ∧ (¬ x > 0 → b'.length = 0) ∧ (∀ z ∈ b', 0 ≤ z ∧ z ≤ 255) := by
   by_cases c : x > 0
   ·
    rw [Xeu c, wkA (e := y + (i : Int)), wkA (e := x - 1), Xg2 ok, Xad, Xby (by simp only [List.length_singleton]; have := g3 c; omega)]
    refine ⟨_, rfl, fun _ => by simp; exact g3 c, fun hn => absurd c hn, fun z hz => ?_⟩
    rcases List.mem_append.1 hz with hz | hz
    ·
     exact g6 z hz
    ·
     rw [List.mem_singleton.1 hz]; exact d2
   ·
    rw [Xaz c]
    exact ⟨_, rfl, fun hn => absurd hn c, fun _ => g4 c, g6⟩
  obtain ⟨b', eb, b1, b2, b3⟩ := st2
  unfold Xc2
  simp only
  rw [syA, ea, Xad, eb, Xad, wkA (e := (i : Int) + 1)]
  exact ⟨(a', b'), rfl, a1, a2, b1, b2, a3, b3⟩) (by intro s; unfold Xc2; rw [Xaz (by simp)]) ([], []) ⟨fun _ => rfl, fun _ => rfl, fun _ => rfl, fun _ => rfl, fun z hz => by simp at hz, fun z hz => by simp at hz⟩
 rw [e, Xad, Xfj, Xad]
 have d3 := Xku p (x - 1) (y - 1)
 have ha : o.1.length = 0 ∨ o.1.length = 8 := by
  by_cases c : y > 0
  ·
   exact Or.inr (o1 c)
  ·
   exact Or.inl (o2 c)
 have hb : o.2.length = 0 ∨ o.2.length = 8 := by
  by_cases c : x > 0
  ·
   exact Or.inr (o3 c)
  ·
   exact Or.inl (o4 c)
 cases hc : (decide (x > 0) && decide (y > 0)) with
 | true =>
  rw [Xau, wkA (e := x - 1), wkA (e := y - 1), Xg2 ok, Xad, Xad]
  exact ⟨_, rfl, ha, hb, o5, o6, by simp only; omega, by simp only; omega⟩
 | false =>
  rw [Xav, Xad]
  exact ⟨_, rfl, ha, hb, o5, o6, by simp only; omega, by simp only; omega⟩
theorem Xlx (l : List Int) (hl : l.length = 0 ∨ l.length = 8) (h : ∀ x ∈ l, 0 ≤ x ∧ x ≤ 255) : Xgh l = some true := by
 unfold Xgh
 have hc : (sel ((l.length : Int) != 0) (some ((l.length : Int) != 8)) (some false)) = some false := by
  rcases hl with e | e
  ·
   rw [e]; rfl
  ·
   rw [e]; rfl
 rw [hc, Xad, Xav, Xvo l.length (f := Xe8 l) (by
  intro i hi
  have := h (l.getD i 0) (by rw [Xcm l i hi]; exact List.getElem_mem _)
  unfold Xe8
  rw [syA, rqA, Xai, Xad, Int.toNat_natCast, decide_eq_true this, Bool.not_true, Xav, wkA]
  rfl) (by unfold Xe8; rw [snA]), Xad]
theorem Xlk {e : Xha} (h : Xrm e) : Xia e = some true := by
 obtain ⟨h1, h2, h3, h4, h5, h6⟩ := h
 unfold Xia
 rw [Xlx _ h1 h3, Xad, Xau, Xlx _ h2 h4, Xad, Xau, Xai, Xad, decide_eq_true ⟨h5, h6⟩, Xad]
theorem Xkq (l : List Int) (k : Nat) (hk : k < 8) (hl : l.length = 0 ∨ l.length = 8) (h : ∀ x ∈ l, 0 ≤ x ∧ x ≤ 255) : ∃ x, Xca l k = some x ∧ 0 ≤ x ∧ x ≤ 255 := by
 unfold Xca
 rcases hl with e | e
 ·
  rw [Xcp (by rw [e]; rfl)]; exact ⟨_, rfl, by omega, by omega⟩
 ·
  rw [Xbw (by rw [e]; rfl), rqA, Int.toNat_natCast]
  exact ⟨_, rfl, h _ (by rw [Xcm l k (by omega)]; exact List.getElem_mem _)⟩
theorem Xnt {e : Xha} (h : Xrm e) : ∃ x, Xf7 e = some x ∧ 0 ≤ x ∧ x ≤ 255 := by
 obtain ⟨h1, h2, h3, h4, _, _⟩ := h
 unfold Xf7
 rw [wkA (e := (e.Above.length : Int) + (e.Left.length : Int))]
 by_cases hz : (e.Above.length : Int) + (e.Left.length : Int) = 0
 ·
  rw [Xcp (by simpa using hz)]; exact ⟨_, rfl, by omega, by omega⟩
 ·
  rw [Xbw (by simpa using hz), rqA, Xbk (by omega), wkA (e := ((e.Above.length : Int) + (e.Left.length : Int)) / 2)]
  obtain ⟨a, ea, a1, a2⟩ := Xjj (f := Xej e) e.Above.length (fun i s => 0 ≤ s ∧ s ≤ ((e.Above.length : Int) + (e.Left.length : Int)) / 2 + 255 * i) (by
   intro i s hi ⟨g1, g2⟩
   have := h3 (e.Above.getD i 0) (by rw [Xcm _ i hi]; exact List.getElem_mem _)
   unfold Xej
   simp only [Int.toNat_natCast]
   rw [syA, rqA, wkA (e := s + e.Above.getD i 0), wkA (e := (i : Int) + 1)]
   exact ⟨_, rfl, by omega, by omega⟩) (by intro s; unfold Xej; rw [Xaz (by simp)]) (((e.Above.length : Int) + (e.Left.length : Int)) / 2) ⟨by omega, by omega⟩
  obtain ⟨b, eb, b1, b2⟩ := Xjj (f := Xek e) e.Left.length (fun i s => 0 ≤ s ∧ s ≤ ((e.Above.length : Int) + (e.Left.length : Int)) / 2 + 255 * e.Above.length + 255 * i) (by
   intro i s hi ⟨g1, g2⟩
   have := h4 (e.Left.getD i 0) (by rw [Xcm _ i hi]; exact List.getElem_mem _)
   unfold Xek
   simp only [Int.toNat_natCast]
   rw [syA, rqA, wkA (e := s + e.Left.getD i 0), wkA (e := (i : Int) + 1)]
   exact ⟨_, rfl, by omega, by omega⟩) (by intro s; unfold Xek; rw [Xaz (by simp)]) a ⟨by omega, by omega⟩
  rw [ea, Xad, eb, Xad, Xby hz, Xbk b1]
  have hn : (e.Above.length : Int) + (e.Left.length : Int) = 8 ∨ (e.Above.length : Int) + (e.Left.length : Int) = 16 := by omega
  have hr : 0 ≤ b / ((e.Above.length : Int) + (e.Left.length : Int)) ∧ b / ((e.Above.length : Int) + (e.Left.length : Int)) ≤ 255 := by
   rcases hn with hn | hn <;> rw [hn] <;> omega
  rw [wkA]
  exact ⟨_, rfl, hr⟩
theorem Xvz (m : Int) (hm0 : 0 ≤ m ∧ m ≤ 3) {e : Xha} (h : Xrm e) : ∃ g, Xd1 m e = some g ∧ Xi3 g = true := by
 have hm : maxLen = 9223372036854775807 := rfl
 have h' := h
 obtain ⟨h1, h2, h3, h4, h5, h6⟩ := h'
 obtain ⟨mid, em, m1, m2⟩ := Xnt h
 unfold Xd1
 rw [Xlk h, Xad, Xau, Xai, Xad, decide_eq_true hm0, Bool.not_true, Xad, Xav]
 have hc : ∃ v, sel (decide (e.Corner < 0)) (some (128 : Int)) (some e.Corner) = some v ∧ 0 ≤ v ∧ v ≤ 255 := by
  by_cases c : e.Corner < 0
  ·
   rw [Xeu c]; exact ⟨_, rfl, by omega, by omega⟩
  ·
   rw [Xaz c]; exact ⟨_, rfl, by omega, by omega⟩
 obtain ⟨v, ev, v1, v2⟩ := hc
 rw [ev, Xad]
 obtain ⟨o, eo, o1, o2⟩ := Xdy (f := Xce m e v) 64 (fun i s => s.length = i ∧ ∀ x ∈ s, 0 ≤ x ∧ x ≤ 255) (by
  intro i s hi ⟨g1, g2⟩
  obtain ⟨a, ea, a1, a2⟩ := Xkq e.Above (i % 8) (by omega) h1 h3
  obtain ⟨b, eb, b1, b2⟩ := Xkq e.Left (i / 8) (by omega) h2 h4
  have br := Xiv (n := b + a - v) (a := 0) (b := 255) (by omega)
  have put : ∀ z : Int, 0 ≤ z ∧ z ≤ 255 → (s ++ [z]).length = i + 1 ∧ ∀ x ∈ s ++ [z], 0 ≤ x ∧ x ≤ 255 := by
   intro z hz
   refine ⟨by simp; omega, fun x hx => ?_⟩
   rcases List.mem_append.1 hx with hx | hx
   ·
    exact g2 x hx
   ·
    rw [List.mem_singleton.1 hx]; exact hz
  unfold Xce
  simp only
  rw [syA, rqA, Xci (by omega), show (i : Int) % 8 = ((i % 8 : Nat) : Int) by omega, ea, Xad, rqA, Xbk (by omega), wkA (e := (i : Int) / 8), show (i : Int) / 8 = ((i / 8 : Nat) : Int) by omega, eb, Xad, wkA (e := (i : Int) + 1), em]
  cases (m == 0) with
  | true =>
   rw [Xau, Xad, Xby (by simp only [List.length_singleton]; omega), Xad]
   exact ⟨_, rfl, put _ ⟨m1, m2⟩⟩
  | false =>
   rw [Xav]
   cases (m == 1) with
   | true =>
    rw [Xau, Xby (by simp only [List.length_singleton]; omega), Xad]
    exact ⟨_, rfl, put _ ⟨a1, a2⟩⟩
   | false =>
    rw [Xav]
    cases (m == 2) with
    | true =>
     rw [Xau, Xby (by simp only [List.length_singleton]; omega), Xad]
     exact ⟨_, rfl, put _ ⟨b1, b2⟩⟩
    | false =>
     rw [Xav, wkA (e := b + a), wkA (e := b + a - v), Xds, Xad, Xby (by simp only [List.length_singleton]; omega), Xad]
     exact ⟨_, rfl, put _ br⟩) (by intro s; unfold Xce; rw [Xaz (by simp)]) [] ⟨rfl, fun x hx => by simp at hx⟩
 exact ⟨o, (Xfl eo).trans rfl, Ybu o1 o2⟩
theorem Xym {p : Pic} {x y : Int} {d : List Int} (ok : Xdn p = true) (h0 : Xhz p x y = true) (hd : Xi3 d = true) : ∃ p', Xe9 p x y d = some p' ∧ Xdn p' = true ∧ p'.Wide = p.Wide ∧ p'.High = p.High := by
 have hm : maxLen = 9223372036854775807 := rfl
 obtain ⟨k1, k2, k3⟩ := Xbl ok
 have ar := Xee k1 k2
 unfold Xhz at h0
 rw [decide_eq_true_eq] at h0
 have hdl := (Xl4 hd).1
 have hn := Xb8 p.Dots
 unfold Xe9
 rw [rqA]
 obtain ⟨o, e, o1⟩ := Xdy (f := Xdm p x y d) 64 (fun _ s => s.length = p.Dots.size) (by
  intro i s hi g1
  have b1 : 0 ≤ (y + (i : Int) / 8) * p.Wide := Int.mul_nonneg (by omega) (by omega)
  have b2 : (y + (i : Int) / 8) * p.Wide ≤ (p.High - 1) * p.Wide := Int.mul_le_mul_of_nonneg_right (by omega) (by omega)
  have b3 : (p.High - 1) * p.Wide = p.Wide * p.High - p.Wide := by rw [Int.sub_mul, Int.one_mul, Int.mul_comm]
  unfold Xdm
  simp only
  rw [syA, rqA, rqA, rqA, Xbk (by omega), Xci (by omega), wkA (e := (i : Int) / 8), wkA (e := y + (i : Int) / 8), wkA (e := (y + (i : Int) / 8) * p.Wide), wkA (e := (y + (i : Int) / 8) * p.Wide + x), wkA (e := (y + (i : Int) / 8) * p.Wide + x + (i : Int) % 8), rqA, rqA, wkA (e := (i : Int) + 1)]
  exact ⟨_, rfl, by rw [List.length_set]; exact g1⟩) (by intro s; unfold Xdm; rw [Xaz (by simp)]) (Xcs p.Dots) hn
 refine ⟨_, (Xfl e).trans rfl, Yal k1 k2 ?_, rfl, rfl⟩
 simp only
 rw [strOfNums_size]; omega
def Xme (n : Int) : Bool := decide (n.tmod 8 = 0) && decide (8 ≤ n ∧ n ≤ 64)
theorem Xg9 (n : Int) : Xd4 n = some (Xme n) := by
 unfold Xd4 Xme
 rw [rqA, Xai, Xad, Xfj, Xad, Xzl]
theorem Xz7 {V O : Type} {f g : V → Option (Lp V O)} (I : V → Prop) (h : ∀ v, I v → f v = g v) (hI : ∀ v v', I v → g v = some (.go v') → I v') : ∀ (k : Nat) (v : V), I v → it f k v = it g k v
 | 0, _, _ => rfl
 | k + 1, v, hv => by
  rw [it, it, h v hv]
  cases e : g v with
  | none => rfl
  | some s =>
   cases s with
   | go y => exact Xz7 I h hI k y (hI v y hv e)
   | done o => rfl
theorem Xq2 {V O : Type} {f g : V → Option (Lp V O)} (I : V → Prop) (h : ∀ v, I v → f v = g v) (hI : ∀ v v', I v → g v = some (.go v') → I v') {v : V} (hv : I v) : loop f v = loop g v := by
 apply Option.ext
 intro o
 rw [Xfi, Xfi]
 exact ⟨fun ⟨k, hk⟩ => ⟨k, by rw [← Xz7 I h hI k v hv]; exact hk⟩, fun ⟨k, hk⟩ => ⟨k, by rw [Xz7 I h hI k v hv]; exact hk⟩⟩
theorem Ydv {V O : Type} {f : V → Option (Lp V O)} {v : V} {o : O} (k : Nat) (h : it f k v = some o) : loop f v = some o := Xfi.2 ⟨k, h⟩
theorem Xva {a b : List Int} {n : Nat} (ha : a.length = n) (hb : b.length = n) (h : ∀ i : Nat, i < n → a.getD i 0 = b.getD i 0) : a = b := by
 apply List.ext_getElem (by omega)
 intro i h1 h2
 have := h i (by omega)
 rwa [Xcm a i h1, Xcm b i h2] at this
theorem Xhs {n : Nat} (g : Nat → Int) {i : Nat} (h : i < n) : ((List.range n).map g).getD i 0 = g i := by
 rw [Xcm _ i (by simpa using h)]; simp
theorem Xiu {S : Type} {f : Int × S → Option (Lp (Int × S) S)} (n : Nat) (I : Nat → S → Prop) (hs : ∀ (i : Nat) (l : S), i < n → I i l → ∃ l', f ((i : Int), l) = some (.go (((i + 1 : Nat) : Int), l')) ∧ I (i + 1) l') (he : ∀ l, I n l → f ((n : Int), l) = some (.done l)) (l0 : S) (h0 : I 0 l0) : ∃ o, loop f (0, l0) = some o ∧ I n o := by
 have key : ∀ i : Nat, i ≤ n → ∀ l, I i l → ∃ o, loop f ((i : Int), l) = some o ∧ I n o := by
  refine Xgm _ ?_ ?_
  ·
   intro l h; exact ⟨l, Xel (he l h), h⟩
  ·
   intro i hi ih l h
   obtain ⟨l', e, h'⟩ := hs i l hi h
   obtain ⟨o, e2, h2⟩ := ih l' h'
   exact ⟨o, lgo e e2, h2⟩
 exact key 0 (by omega) l0 h0
theorem Yfr {f : Int × List Int → Option (Lp (Int × List Int) (List Int))} (n : Nat) (g : Nat → Int) (l : List Int) (hl : l.length = n) (hs : ∀ (i : Nat) (s : List Int), i < n → s.length = n → s.getD i 0 = l.getD i 0 → f ((i : Int), s) = some (.go (((i + 1 : Nat) : Int), s.set i (g i)))) (he : ∀ s : List Int, s.length = n → f ((n : Int), s) = some (.done s)) : loop f (0, l) = some ((List.range n).map g) := by
 obtain ⟨o, e, h1, h2, _⟩ := Xiu (f := f) n (fun i s => s.length = n ∧ (∀ j, j < i → s.getD j 0 = g j) ∧ ∀ j, i ≤ j → s.getD j 0 = l.getD j 0) (by
  intro i s hi ⟨g1, g2, g3⟩
  refine ⟨_, hs i s hi g1 (g3 i (Nat.le_refl _)), by rw [List.length_set]; exact g1, fun j hj => ?_, fun j hj => ?_⟩
  ·
   rw [Xd5 s i j _ (by omega)]
   by_cases h : i = j
   ·
    rw [if_pos h, h]
   ·
    rw [if_neg h]; exact g2 j (by omega)
  ·
   rw [Xd5 s i j _ (by omega), if_neg (by omega)]; exact g3 j (by omega)) (fun s hs => he s hs.1) l ⟨hl, fun j hj => by omega, fun _ _ => rfl⟩
 rw [e]
 congr 1
 exact Xva h1 (by simp) fun i hi => by rw [h2 i hi, Xhs g hi]
theorem Ydl : Xiz = Xb1 := rfl
theorem Xyb (qp : Int) (h0 : 0 ≤ qp ∧ qp ≤ 40) : Xe2 qp = some (Xjh qp) := by
 have h := Yho ⟨qp.toNat, by omega⟩
 simp only at h
 rw [show ((qp.toNat : Nat) : Int) = qp by omega] at h
 unfold Xe2
 rw [Xai, Xad, decide_eq_true (by omega), Bool.not_true, Xav, rqA]
 have hb : (sel ((qp.tmod 6) == 0) (some (10 : Int)) (sel ((qp.tmod 6) == 1) (some 11) (sel ((qp.tmod 6) == 2) (some 13) (sel ((qp.tmod 6) == 3) (some 14) (sel ((qp.tmod 6) == 4) (some 16) (some 18)))))) = some (Xle qp) := by
  unfold Xle
  simp only [Yd4, beq_iff_eq]
  repeat' split
  all_goals rfl
 rw [hb, Xad]
 unfold Xjh at h ⊢
 cases e : it (Xfy qp) 10 (Xle qp, 0) with
 | none => rw [e] at h; simp only at h; omega
 | some q => rw [Xfi.2 ⟨10, e⟩, Xad]
theorem Xz3 : ∀ q : Fin 41, Xhd (q.val : Int) = some (Xjh (q.val : Int)) := by decide +kernel
theorem Xxd (qp : Int) (h0 : 0 ≤ qp ∧ qp ≤ 40) : Xhd qp = some (Xjh qp) := by
 have := Xz3 ⟨qp.toNat, by omega⟩
 simp only at this
 rwa [show ((qp.toNat : Nat) : Int) = qp by omega] at this
theorem Ybi (qp : Int) (h0 : 0 ≤ qp ∧ qp ≤ 40) : Xhd qp = Xe2 qp := by rw [Xxd qp h0, Xyb qp h0]
theorem Xnr (u v : Nat) (hu : u < 8) (hv : v < 8) : Xe1 u v = some (Xfv u v) := by
 have h := Yhk ⟨u, hu⟩ ⟨v, hv⟩
 simp only at h
 unfold Xe1
 rw [Xai, Xad, decide_eq_true (by omega), Xau, Xai, Xad, decide_eq_true (by omega), Bool.not_true, Xad, Xav]
 unfold Xfv at h ⊢
 cases e : it Xfx 10 (1, (IntKind.wrap .i64 (BitVec.ofInt (IntKind.bits .i64) (u : Int) &&& BitVec.ofInt (IntKind.bits .i64) (v : Int)).toNat)) with
 | none => rw [e] at h; simp only at h; omega
 | some q => rw [Xfi.2 ⟨10, e⟩, Xad]
theorem Xz2 : ∀ u v : Fin 8, Xhc (u.val : Int) (v.val : Int) = some (Xfv (u.val : Int) (v.val : Int)) := by decide +kernel
theorem Xrk (u v : Nat) (hu : u < 8) (hv : v < 8) : Xhc u v = some (Xfv u v) := Xz2 ⟨u, hu⟩ ⟨v, hv⟩
def Yat (qp p : Int) : Option Int :=
 bnd (Xhm p) fun q1 => bnd (Xbb q1 10 16 13) fun a1 => bnd (Xbb q1 11 18 14) fun a2 => bnd (Xbb q1 13 20 16) fun a3 => bnd (Xbb q1 14 23 18) fun a4 => bnd (Xbb q1 16 25 20) fun a5 => bnd (Xbb q1 18 29 23) fun a6 =>
 it (Xc3 qp) 10 ((sel (qp.tmod 6 == 0) a1 (sel (qp.tmod 6 == 1) a2 (sel (qp.tmod 6 == 2) a3 (sel (qp.tmod 6 == 3) a4 (sel (qp.tmod 6 == 4) a5 (sel (qp.tmod 6 == 5) a6 0)))))), 0)
theorem Yhe : ∀ q : Fin 41, ∀ p : Fin 16, (Yat (q.val : Int) (p.val : Int)).isSome = true ∧ Xh4 (q.val : Int) (p.val : Int) = Yat (q.val : Int) (p.val : Int) := by decide +kernel
theorem Xzc (qp p : Int) (h0 : 0 ≤ qp ∧ qp ≤ 40) (hp : 0 ≤ p ∧ p ≤ 15) : Xh4 qp p = Xe0 qp p := by
 have := Yhe ⟨qp.toNat, by omega⟩ ⟨p.toNat, by omega⟩
 simp only at this
 rw [show ((qp.toNat : Nat) : Int) = qp by omega, show ((p.toNat : Nat) : Int) = p by omega] at this
 obtain ⟨h1, h2⟩ := this
 rw [h2]
 cases e : Yat qp p with
 | none => rw [e] at h1; cases h1
 | some o =>
  unfold Yat at e
  unfold Xe0
  obtain ⟨k, ek, k0, k1⟩ := Xnp p hp
  rw [ek, Xad] at e ⊢
  rw [Xai, Xad, decide_eq_true h0, Xau, decide_eq_false (by omega), Xad, Xav, rqA]
  obtain ⟨a1, e1, b1⟩ := Xba k 10 16 13
  obtain ⟨a2, e2, b2⟩ := Xba k 11 18 14
  obtain ⟨a3, e3, b3⟩ := Xba k 13 20 16
  obtain ⟨a4, e4, b4⟩ := Xba k 14 23 18
  obtain ⟨a5, e5, b5⟩ := Xba k 16 25 20
  obtain ⟨a6, e6, b6⟩ := Xba k 18 29 23
  rw [e1, e2, e3, e4, e5, e6] at e ⊢
  simp only [Xad, Yhj] at e ⊢
  rw [Ydv 10 e, Xad]
def Xki (n : Int) (v16 : Int × List Int) : Option (Lp (Int × List Int) (List Int)) :=
 sel (decide (v16.1 ≤ (Xaa .i64 ((Xaa .i64 (2 * n)) - 2)))) (
 bnd (it (Xgx n v16) 20 (0, v16.2)) fun v42 =>
 some (.go (Xaa .i64 (v16.1 + 1), v42))) (
 some (.done v16.2))
theorem Yc0 {n : Int} {v : Int × List Int} {x : Lp (Int × List Int) (List Int)} (h : Xki n v = some x) : Xem n v = some x := by
 unfold Xki at h
 unfold Xem
 rcases Xlb h with ⟨hb, h⟩ | ⟨hb, h⟩
 ·
  rw [hb, Xau]
  obtain ⟨a, h1, h2⟩ := Xbd h
  rw [Xfi.2 ⟨20, h1⟩, Xad]
  exact h2
 ·
  rw [hb, Xav]; exact h
def Xxt (n : Int) : List Int := (it (Xki n) 20 (0, [])).getD []
theorem Ykg : (it (Xki 4) 20 (0, [])).isSome = true ∧ (Xxt 4).length = 16 := by decide +kernel
theorem Ykh : (it (Xki 8) 20 (0, [])).isSome = true ∧ (Xxt 8).length = 64 := by decide +kernel
theorem Yhf : ∀ i : Fin 16, (Xxt 4).getD i.val 0 = Xet 4 (i.val : Int) := by decide +kernel
theorem Yhg : ∀ i : Fin 64, (Xxt 8).getD i.val 0 = Xet 8 (i.val : Int) := by decide +kernel
theorem Xqx (n : Int) (hn : n = 4 ∨ n = 8) : Xfr n = some (Xxt n) ∧ ((Xxt n).length : Int) = n * n ∧ ∀ i : Nat, (i : Int) < n * n → (Xxt n).getD i 0 = Xet n i := by
 have h : (it (Xki n) 20 (0, [])).isSome = true ∧ ((Xxt n).length : Int) = n * n := by
  rcases hn with rfl | rfl
  ·
   have := Ykg; exact ⟨this.1, by omega⟩
  ·
   have := Ykh; exact ⟨this.1, by omega⟩
 refine ⟨?_, h.2, fun i hi => ?_⟩
 ·
  obtain ⟨o, ho⟩ := Option.isSome_iff_exists.1 h.1
  have hl := Ydv 20 (Yik (fun v y => Yc0 (n := n)) 20 _ ho)
  unfold Xfr
  rw [hl, Xad]
  unfold Xxt; rw [ho]; rfl
 ·
  rcases hn with rfl | rfl
  ·
   exact Yhf ⟨i, by omega⟩
  ·
   exact Yhg ⟨i, by omega⟩
theorem Xl2 (n : Int) (hn : n = 4 ∨ n = 8) (l : List Int) (hl : (l.length : Int) = n * n) : Xdf n l = Xb9 n l := by
 obtain ⟨e, h1, h2⟩ := Xqx n hn
 have hw : Xaa .i64 (n * n) = n * n := by rcases hn with rfl | rfl <;> exact wkA
 have hn2 : n * n ≤ 64 := by rcases hn with rfl | rfl <;> omega
 unfold Xdf Xb9
 rw [e]
 have : loop (Xfb l (Xxt n)) (0, List.replicate (l.length : Int).toNat 0) = loop (Xbp n l) (0, List.replicate (l.length : Int).toNat 0) := by
  refine Xq2 (fun v => (∃ i : Nat, v.1 = (i : Int) ∧ i ≤ l.length) ∧ v.2.length = l.length) ?_ ?_ ⟨⟨0, rfl, by omega⟩, by simp⟩
  ·
   intro ⟨i, s⟩ ⟨⟨k, ek, hk⟩, hs⟩
   simp only at hs ek
   subst ek
   unfold Xfb Xbp
   simp only [Int.toNat_natCast]
   rw [hw]
   by_cases hi : (k : Int) < n * n
   ·
    have hp := Xjo n hn k hi
    have h3 := h2 k hi
    simp only [h3]
    rw [syA, Xeu hi, Xj1 n hn k hi, Xad, rqA, rqA]
   ·
    rw [snA, Xaz hi]
  ·
   intro ⟨i, s⟩ v' ⟨⟨k, ek, hk⟩, hs⟩ he
   simp only at hs ek
   subst ek
   unfold Xbp at he
   simp only [Int.toNat_natCast] at he
   rw [hw] at he
   by_cases hi : (k : Int) < n * n
   ·
    have hp := Xjo n hn k hi
    rw [Xeu hi, Xj1 n hn k hi, Xad, rqA, rqA, rqA, wkA] at he
    cases he
    exact ⟨⟨k + 1, rfl, by omega⟩, by rw [List.length_set]; exact hs⟩
   ·
    rw [Xaz hi] at he; cases he
 simp only [Xad, this]
def Ybd (t : Nat → Int) : Nat → Int
 | 0 => 0
 | k + 1 => Xaa .i64 (Ybd t k + t k)
def Ykc (p : List Int) (i v k : Nat) : Int := Xaa .i64 (Xfv v k * p.getD (8 * i + k) 0)
def Yj0 (p : List Int) (u v k : Nat) : Int := Xaa .i64 (Xfv u k * p.getD (8 * k + v) 0)
def Xl5 (p : List Int) : List Int := (List.range 64).map fun j => Ybd (Ykc p (j / 8) (j % 8)) 8
def Yf1 (p : List Int) : List Int := (List.range 64).map fun j => Ybd (Yj0 (Xl5 p) (j / 8) (j % 8)) 8
theorem Yb1 (p : List Int) : (Xl5 p).length = 64 := by simp [Xl5]
theorem Yhq (p : List Int) : (Yf1 p).length = 64 := by simp [Yf1]
theorem Yc8 {f1 : Int × List Int → Option (Lp (Int × List Int) (List Int))} {f2 : Int × List Int → Int × List Int → Option (Lp (Int × List Int) (List Int))} {f3 : Int × List Int → Int × List Int → Int × List Int → Option (Lp (Int × List Int) (List Int))} (t : Nat → Nat → Nat → Int)
  (h1 : ∀ v, f1 v = sel (decide (v.1 < 8)) (bnd (loop (f2 v) (0, v.2)) fun w => some (.go (Xaa .i64 (v.1 + 1), w))) (some (.done v.2)))
  (h2 : ∀ v w, f2 v w = sel (decide (w.1 < 8)) (bnd (loop (f3 v w) (0, w.2)) fun x => some (.go (Xaa .i64 (w.1 + 1), x))) (some (.done w.2)))
  (h3 : ∀ (i v k : Nat) (a b s : List Int), i < 8 → v < 8 → k < 8 → s.length = 64 → f3 ((i : Int), a) ((v : Int), b) ((k : Int), s) = some (.go (((k + 1 : Nat) : Int), s.set (8 * i + v) (Xaa .i64 (s.getD (8 * i + v) 0 + t i v k)))))
  (h4 : ∀ (i v : Nat) (a b s : List Int), f3 ((i : Int), a) ((v : Int), b) (8, s) = some (.done s)) : loop f1 (0, List.replicate 64 0) = some ((List.range 64).map fun j => Ybd (t (j / 8) (j % 8)) 8) := by
 obtain ⟨o, e, o1, o2, _⟩ := Xiu (f := f1) 8 (fun i s => s.length = 64 ∧ (∀ j, j < 8 * i → s.getD j 0 = Ybd (t (j / 8) (j % 8)) 8) ∧ ∀ j, 8 * i ≤ j → s.getD j 0 = 0) (by
  intro i s hi ⟨g1, g2, g3⟩
  obtain ⟨r, er, r1, r2, r3⟩ := Xiu (f := f2 ((i : Int), s)) 8 (fun v s => s.length = 64 ∧ (∀ j, j < 8 * i + v → s.getD j 0 = Ybd (t (j / 8) (j % 8)) 8) ∧ ∀ j, 8 * i + v ≤ j → s.getD j 0 = 0) (by
   intro v s' hv ⟨k1, k2, k3⟩
   obtain ⟨q, eq, q1, q2, q3⟩ := Xiu (f := f3 ((i : Int), s) ((v : Int), s')) 8 (fun k s => s.length = 64 ∧ (∀ j, j ≠ 8 * i + v → s.getD j 0 = s'.getD j 0) ∧ s.getD (8 * i + v) 0 = Ybd (t i v) k) (by
    intro k s'' hk ⟨m1, m2, m3⟩
    refine ⟨_, h3 i v k s s' s'' hi hv hk m1, by rw [List.length_set]; exact m1, fun j hj => ?_, ?_⟩
    ·
     rw [Xd5 _ _ _ _ (by omega), if_neg (fun h => hj h.symm)]; exact m2 j hj
    ·
     rw [Xd5 _ _ _ _ (by omega), if_pos rfl, m3]; rfl) (fun z _ => h4 i v s s' z) s' ⟨k1, fun _ _ => rfl, by rw [k3 _ (Nat.le_refl _)]; rfl⟩
   refine ⟨q, by rw [h2, Xeu (by simp only; omega), eq, Xad, wk (by simp only; omega) (by simp only; omega)]; rfl, q1, fun j hj => ?_, fun j hj => ?_⟩
   ·
    by_cases h : j = 8 * i + v
    ·
     rw [h, q3, show (8 * i + v) / 8 = i by omega, show (8 * i + v) % 8 = v by omega]
    ·
     rw [q2 j h]; exact k2 j (by omega)
   ·
    rw [q2 j (by omega)]; exact k3 j (by omega)) (fun z _ => by rw [h2, Xaz (by simp)]) s ⟨g1, g2, g3⟩
  refine ⟨r, by rw [h1, Xeu (by simp only; omega), er, Xad, wk (by simp only; omega) (by simp only; omega)]; rfl, r1, fun j hj => r2 j (by omega), fun j hj => r3 j (by omega)⟩) (fun z _ => by rw [h1, Xaz (by simp)]) (List.replicate 64 0) ⟨by simp, fun j hj => by omega, fun j _ => by
   by_cases h : j < 64
   ·
    rw [Xcm _ _ (by rw [List.length_replicate]; exact h)]; exact List.getElem_replicate ..
   ·
    rw [List.getD_eq_getElem?_getD, List.getElem?_eq_none (by rw [List.length_replicate]; omega)]; rfl⟩
 rw [e]
 congr 1
 exact Xva o1 (by simp) fun j hj => by rw [o2 j (by omega), Xhs (fun j => Ybd (t (j / 8) (j % 8)) 8) hj]
theorem Ycb (p : List Int) (hp : p.length = 64) : Xma p = some (Yf1 p) := by
 unfold Xma
 rw [rqA]
 have e1 : loop (Xk4 p) (0, List.replicate (64 : Int).toNat 0) = some (Xl5 p) :=
  Yc8 (f2 := Xk5 p) (f3 := Xgy p) (fun i v k => Ykc p i v k) (fun _ => rfl) (fun _ _ => rfl) (fun i v k a b s hi hv hk hs => by
   unfold Xgy
   simp only
   rw [syA, wkA (e := 8 * (i : Int)), wkA (e := 8 * (i : Int) + (v : Int)), wkA (e := 8 * (i : Int) + (k : Int)), rqA, rqA, Xrk v k hv hk, Xad, rqA, rqA, rqA, wkA (e := (k : Int) + 1), show (8 * (i : Int) + (v : Int)).toNat = 8 * i + v by omega, show (8 * (i : Int) + (k : Int)).toNat = 8 * i + k by omega]
   rfl) (fun i v a b s => by unfold Xgy; rw [Xaz (by simp)])
 have e2 : loop (Xju (Xl5 p)) (0, List.replicate (64 : Int).toNat 0) = some (Yf1 p) :=
  Yc8 (f2 := Xjv (Xl5 p)) (f3 := Xfs (Xl5 p)) (fun i v k => Yj0 (Xl5 p) i v k) (fun _ => rfl) (fun _ _ => rfl) (fun i v k a b s hi hv hk hs => by
   have hl := Yb1 p
   unfold Xfs
   simp only
   rw [syA, wkA (e := 8 * (i : Int)), wkA (e := 8 * (i : Int) + (v : Int)), wkA (e := 8 * (k : Int)), wkA (e := 8 * (k : Int) + (v : Int)), rqA, rqA, Xrk i k hi hk, Xad, rqA, rqA, rqA, rqA, wkA (e := (k : Int) + 1), show (8 * (i : Int) + (v : Int)).toNat = 8 * i + v by omega, show (8 * (k : Int) + (v : Int)).toNat = 8 * k + v by omega]
   rfl) (fun i v a b s => by unfold Xfs; rw [Xaz (by simp)])
 rw [e1, Xad, rqA, e2, Xad]
theorem Xyi (p : List Int) (hp : p.length = 64) (i v : Nat) (hi : i < 8) (hv : v < 8) : Xf6 p i v = some (Ybd (Ykc p i v) 8) := by
 obtain ⟨o, e, h⟩ := Xjj (f := Xcu p i v) 8 (fun k s => s = Ybd (Ykc p i v) k) (by
  intro k s hk g
  subst g
  unfold Xcu
  simp only
  rw [syA, wkA (e := 8 * (i : Int)), wkA (e := 8 * (i : Int) + (k : Int)), rqA, Xnr v k hv hk, Xad, wkA (e := (k : Int) + 1), show (8 * (i : Int) + (k : Int)).toNat = 8 * i + k by omega, Int.mul_comm (p.getD _ _)]
  exact ⟨_, rfl, rfl⟩) (by intro s; unfold Xcu; rw [Xaz (by simp)]) 0 rfl
 unfold Xf6
 rw [e, Xad, h]
theorem Xwl (p : List Int) (hp : p.length = 64) : Xe5 p = some (Yf1 p) := by
 have hm : maxLen = 9223372036854775807 := rfl
 unfold Xe5
 obtain ⟨o, e, ho⟩ := Xdy (f := Xb2 p) 8 (fun i s => s = (List.range (8 * i)).map fun j => Ybd (Ykc p (j / 8) (j % 8)) 8) (by
  intro i s hi g
  subst g
  obtain ⟨r, er, hr⟩ := Xdy (f := Xb3 p ((i : Int), (List.range (8 * i)).map fun j => Ybd (Ykc p (j / 8) (j % 8)) 8)) 8 (fun v s => s = (List.range (8 * i + v)).map fun j => Ybd (Ykc p (j / 8) (j % 8)) 8) (by
   intro v s hv g
   subst g
   unfold Xb3
   simp only
   rw [syA, Xyi p hp i v hi hv, Xad, Xby (by simp only [List.length_singleton, List.length_map, List.length_range]; omega), wkA (e := (v : Int) + 1)]
   refine ⟨_, rfl, ?_⟩
   rw [show 8 * i + (v + 1) = (8 * i + v) + 1 by omega, List.range_succ, List.map_append, List.map_singleton, show (8 * i + v) / 8 = i by omega, show (8 * i + v) % 8 = v by omega]) (by intro s; unfold Xb3; rw [Xaz (by simp)]) _ rfl
  rw [Nat.add_zero] at er
  unfold Xb2
  simp only
  rw [syA, er, Xad, wkA (e := (i : Int) + 1)]
  exact ⟨_, rfl, by rw [hr, show 8 * (i + 1) = 8 * i + 8 by omega]⟩) (by intro s; unfold Xb2; rw [Xaz (by simp)]) [] rfl
 have ho' : o = Xl5 p := by rw [ho]; rfl
 rw [e, Xad, ho']
 obtain ⟨o2, e2, ho2⟩ := Xdy (f := Xbq (Xl5 p)) 8 (fun i s => s = (List.range (8 * i)).map fun j => Ybd (Yj0 (Xl5 p) (j / 8) (j % 8)) 8) (by
  intro i s hi g
  subst g
  obtain ⟨r, er, hr⟩ := Xdy (f := Xbr (Xl5 p) ((i : Int), (List.range (8 * i)).map fun j => Ybd (Yj0 (Xl5 p) (j / 8) (j % 8)) 8)) 8 (fun v s => s = (List.range (8 * i + v)).map fun j => Ybd (Yj0 (Xl5 p) (j / 8) (j % 8)) 8) (by
   intro v s hv g
   obtain ⟨c, ec, hc⟩ := Xjj (f := Xbs (Xl5 p) ((i : Int), (List.range (8 * i)).map fun j => Ybd (Yj0 (Xl5 p) (j / 8) (j % 8)) 8) ((v : Int), s)) 8 (fun k x => x = Ybd (Yj0 (Xl5 p) i v) k) (by
    intro k x hk g
    subst g
    have hl := Yb1 p
    unfold Xbs
    simp only
    rw [syA, Xnr i k hi hk, Xad, wkA (e := 8 * (k : Int)), wkA (e := 8 * (k : Int) + (v : Int)), rqA, rqA, wkA (e := (k : Int) + 1), show (8 * (k : Int) + (v : Int)).toNat = 8 * k + v by omega]
    exact ⟨_, rfl, rfl⟩) (by intro s; unfold Xbs; rw [Xaz (by simp)]) 0 rfl
   subst g
   unfold Xbr
   simp only
   rw [syA, ec, Xad, Xby (by simp only [List.length_singleton, List.length_map, List.length_range]; omega), wkA (e := (v : Int) + 1)]
   refine ⟨_, rfl, ?_⟩
   rw [hc, show 8 * i + (v + 1) = (8 * i + v) + 1 by omega, List.range_succ, List.map_append, List.map_singleton, show (8 * i + v) / 8 = i by omega, show (8 * i + v) % 8 = v by omega]) (by intro s; unfold Xbr; rw [Xaz (by simp)]) _ rfl
  rw [Nat.add_zero] at er
  unfold Xbq
  simp only
  rw [syA, er, Xad, wkA (e := (i : Int) + 1)]
  exact ⟨_, rfl, by rw [hr, show 8 * (i + 1) = 8 * i + 8 by omega]⟩) (by intro s; unfold Xbq; rw [Xaz (by simp)]) [] rfl
 rw [e2, Xad, ho2]
 rfl
theorem Xtw (l : List Int) (n B : Int) (hn : (l.length : Int) = n) (hn2 : n ≤ 1000000) (h : inB B l) : Xcx l n (-B) B = some true := by
 rw [Xiq l n (-B) B (by omega), hn, beq_self_eq_true, Bool.and_true]
 congr 1
 rw [List.all_eq_true]
 intro x hx
 rw [decide_eq_true_eq]; exact h x hx
theorem Xpu (o : List Int) {f : Int × List Int → Option (Lp (Int × List Int) (List Int))} (n : Nat) (hn : n ≤ 64) (hl : o.length = n) (hf : ∀ v : Int × List Int, f v = sel (decide (v.1 < (n : Int))) (req (0 ≤ v.1 ∧ v.1 < v.2.length) <| req (v.1.toNat < v.2.length) <| bnd (Xb1 (Xaa .i64 ((v.2.getD v.1.toNat 0) + 32)) 64) fun q => req (0 ≤ v.1 ∧ v.1 < v.2.length) <| req (v.1.toNat < v.2.length) <| some (.go (Xaa .i64 (v.1 + 1), (v.2.set v.1.toNat q)))) (some (.done v.2))) : bnd (Xgb o) (fun q => some q.2) = bnd (loop f (0, o)) fun q => some q := by
 unfold Xgb
 have : Xi7 o = f := by
  funext v
  rw [hf, ← hl]; rfl
 rw [this]
 cases loop f (0, o) <;> rfl
theorem Xtp (p : List Int) (hl : p.length = 64) (hb : inB 10000000 p) : Xfn p = Xdi p := by
 unfold Xfn Xdi
 rw [Xtw p 64 10000000 (by omega) (by omega) hb, Xgd p 64 10000000 (by omega) (by omega) (by omega) hb, Xad, Xad, Bool.not_true, Xav, Xav, Ycb p hl, Xwl p hl, Xad, Xad]
 exact Xpu (Yf1 p) 64 (by omega) (Yhq p) (fun _ => rfl)
def tgA (q : Int → Int → Int → Int → Option (Int × Int × Int × Int)) (v4 : (Int × (List Int))) : Option (Lp (Int × (List Int)) (List Int)) :=
 sel (decide (v4.1 < 16)) (
 req (0 ≤ v4.1 ∧ v4.1 < v4.2.length) <|
 req (v4.1.toNat < v4.2.length) <|
 req (0 ≤ (Xaa .i64 (v4.1 + 1)) ∧ (Xaa .i64 (v4.1 + 1)) < v4.2.length) <|
 req ((Xaa .i64 (v4.1 + 1)).toNat < v4.2.length) <|
 req (0 ≤ (Xaa .i64 (v4.1 + 2)) ∧ (Xaa .i64 (v4.1 + 2)) < v4.2.length) <|
 req ((Xaa .i64 (v4.1 + 2)).toNat < v4.2.length) <|
 req (0 ≤ (Xaa .i64 (v4.1 + 3)) ∧ (Xaa .i64 (v4.1 + 3)) < v4.2.length) <|
 req ((Xaa .i64 (v4.1 + 3)).toNat < v4.2.length) <|
 bnd (q (v4.2.getD v4.1.toNat 0) (v4.2.getD ((Xaa .i64 (v4.1 + 1)).toNat) 0) (v4.2.getD ((Xaa .i64 (v4.1 + 2)).toNat) 0) (v4.2.getD ((Xaa .i64 (v4.1 + 3)).toNat) 0)) fun q8 =>
 req (0 ≤ v4.1 ∧ v4.1 ≤ (Xaa .i64 (v4.1 + 4)) ∧ (Xaa .i64 (v4.1 + 4)) ≤ (v4.2.length : Int)) <|
 req ((v4.1.toNat + ((Xaa .i64 (v4.1 + 4)).toNat - v4.1.toNat) ≤ v4.2.length ∧ ([q8.1, q8.2.1, q8.2.2.1, q8.2.2.2]).length ≤ ((Xaa .i64 (v4.1 + 4)).toNat - v4.1.toNat))) <|
 some (.go (Xaa .i64 (v4.1 + 4), (over v4.2 v4.1.toNat ([q8.1, q8.2.1, q8.2.2.1, q8.2.2.2]))))) (
 some (.done v4.2))
def tgB (v17 : (Int × (List Int))) (q26 : (Int × Int × Int × Int)) (v28 : (Int × (List Int))) : Option (Lp (Int × (List Int)) (List Int)) :=
 sel (decide (v28.1 < 4)) (
 req (0 ≤ v28.1 ∧ v28.1 < ([q26.1, q26.2.1, q26.2.2.1, q26.2.2.2] : List Int).length) <|
 req (0 ≤ (Xaa .i64 (v17.1 + (Xaa .i64 (4 * v28.1)))) ∧ (Xaa .i64 (v17.1 + (Xaa .i64 (4 * v28.1)))) < v28.2.length) <|
 req ((Xaa .i64 (v17.1 + (Xaa .i64 (4 * v28.1)))).toNat < v28.2.length) <|
 some (.go (Xaa .i64 (v28.1 + 1), (v28.2.set ((Xaa .i64 (v17.1 + (Xaa .i64 (4 * v28.1)))).toNat) (([q26.1, q26.2.1, q26.2.2.1, q26.2.2.2] : List Int).getD v28.1.toNat 0))))) (
 some (.done v28.2))
noncomputable def tgC (q : Int → Int → Int → Int → Option (Int × Int × Int × Int)) (v17 : (Int × (List Int))) : Option (Lp (Int × (List Int)) (List Int)) :=
 sel (decide (v17.1 < 4)) (
 req (0 ≤ v17.1 ∧ v17.1 < v17.2.length) <|
 req (v17.1.toNat < v17.2.length) <|
 req (0 ≤ (Xaa .i64 (v17.1 + 4)) ∧ (Xaa .i64 (v17.1 + 4)) < v17.2.length) <|
 req ((Xaa .i64 (v17.1 + 4)).toNat < v17.2.length) <|
 req (0 ≤ (Xaa .i64 (v17.1 + 8)) ∧ (Xaa .i64 (v17.1 + 8)) < v17.2.length) <|
 req ((Xaa .i64 (v17.1 + 8)).toNat < v17.2.length) <|
 req (0 ≤ (Xaa .i64 (v17.1 + 12)) ∧ (Xaa .i64 (v17.1 + 12)) < v17.2.length) <|
 req ((Xaa .i64 (v17.1 + 12)).toNat < v17.2.length) <|
 bnd (q (v17.2.getD v17.1.toNat 0) (v17.2.getD ((Xaa .i64 (v17.1 + 4)).toNat) 0) (v17.2.getD ((Xaa .i64 (v17.1 + 8)).toNat) 0) (v17.2.getD ((Xaa .i64 (v17.1 + 12)).toNat) 0)) fun q26 =>
 bnd (loop (tgB v17 q26) (0, v17.2)) fun v30 =>
 some (.go (Xaa .i64 (v17.1 + 1), v30))) (
 some (.done v17.2))
noncomputable def Ykx (q : Int → Int → Int → Int → Option (Int × Int × Int × Int)) (p0 : (List Int)) : Option (List Int) :=
 bnd (Xgw p0) fun q1 =>
 bnd (loop (tgA q) (0, q1)) fun v7 =>
 bnd (loop (tgC q) (0, v7)) fun v25 =>
 some v25
theorem Yht : Xbu = Ykx Xcz := rfl
abbrev Q4 := Int × Int × Int × Int
def Yco (q : Q4) (i : Nat) : Int := [q.1, q.2.1, q.2.2.1, q.2.2.2].getD i 0
def Xoe (t : Int → Int → Int → Int → Q4) (p : List Int) : List Int := (List.range 16).map fun j => Yco (t (p.getD (4 * (j / 4)) 0) (p.getD (4 * (j / 4) + 1) 0) (p.getD (4 * (j / 4) + 2) 0) (p.getD (4 * (j / 4) + 3) 0)) (j % 4)
def Xop (p : List Int) : List Int := (List.range 16).map fun j => p.getD (j % 4 * 4 + j / 4) 0
theorem Xpr (t : Int → Int → Int → Int → Q4) (p : List Int) : (Xoe t p).length = 16 := by simp [Xoe]
theorem Xoq (p : List Int) : (Xop p).length = 16 := by simp [Xop]
theorem Ycm {l m : List Int} {i : Nat} (h : i + m.length ≤ l.length) (j : Nat) : (over l i m).getD j 0 = if i ≤ j ∧ j < i + m.length then m.getD (j - i) 0 else l.getD j 0 := by
 rw [List.getD_eq_getElem?_getD, Ye0 h]
 split <;> rw [List.getD_eq_getElem?_getD]
theorem Yjc {q : Int → Int → Int → Int → Option Q4} {t : Int → Int → Int → Int → Q4} (hq : ∀ a b c d, q a b c d = some (t a b c d)) (p : List Int) (hp : p.length = 16) : Ykx q p = some (Xop (Xoe t (Xop (Xoe t p)))) := by
 have hm : maxLen = 9223372036854775807 := rfl
 unfold Ykx Xgw
 rw [Xby (by simp only [List.length_nil]; omega), Xad, List.nil_append]
 have hA : loop (tgA q) (0, p) = some (Xoe t p) := by
  have key : ∀ r : Nat, r ≤ 4 → ∀ s : List Int, s.length = 16 → (∀ j, j < 4 * r → s.getD j 0 = (Xoe t p).getD j 0) → (∀ j, 4 * r ≤ j → s.getD j 0 = p.getD j 0) → loop (tgA q) (((4 * r : Nat) : Int), s) = some (Xoe t p) := by
   refine Xgm _ ?_ ?_
   ·
    intro s h1 h2 _
    refine Xel ?_
    unfold tgA
    rw [Xaz (by simp), Xva h1 (Xpr t p) h2]
   ·
    intro r hr ih s h1 h2 h3
    refine lgo (y := (((4 * (r + 1) : Nat) : Int), over s (4 * r) [Yco (t (p.getD (4 * r) 0) (p.getD (4 * r + 1) 0) (p.getD (4 * r + 2) 0) (p.getD (4 * r + 3) 0)) 0, Yco (t (p.getD (4 * r) 0) (p.getD (4 * r + 1) 0) (p.getD (4 * r + 2) 0) (p.getD (4 * r + 3) 0)) 1, Yco (t (p.getD (4 * r) 0) (p.getD (4 * r + 1) 0) (p.getD (4 * r + 2) 0) (p.getD (4 * r + 3) 0)) 2, Yco (t (p.getD (4 * r) 0) (p.getD (4 * r + 1) 0) (p.getD (4 * r + 2) 0) (p.getD (4 * r + 3) 0)) 3])) ?_ (ih _ ?_ ?_ ?_)
    ·
     unfold tgA
     simp only
     rw [syA, wkA (e := ((4 * r : Nat) : Int) + 1), wkA (e := ((4 * r : Nat) : Int) + 2), wkA (e := ((4 * r : Nat) : Int) + 3), wkA (e := ((4 * r : Nat) : Int) + 4)]
     rw [rqA, rqA, rqA, rqA, rqA, rqA, rqA, rqA, hq, Xad, rqA, Xby (by simp only [List.length_cons, List.length_nil]; omega)]
     rw [show (((4 * r : Nat) : Int) + 1).toNat = 4 * r + 1 by omega, show (((4 * r : Nat) : Int) + 2).toNat = 4 * r + 2 by omega, show (((4 * r : Nat) : Int) + 3).toNat = 4 * r + 3 by omega, Int.toNat_natCast, h3 _ (by omega), h3 _ (by omega), h3 _ (by omega), h3 _ (by omega)]
     rfl
    ·
     rw [Xvf (by simp only [List.length_cons, List.length_nil]; omega)]; exact h1
    ·
     intro j hj
     rw [Ycm (by simp only [List.length_cons, List.length_nil]; omega)]
     simp only [List.length_cons, List.length_nil]
     by_cases h : 4 * r ≤ j
     ·
      rw [if_pos (by omega)]
      unfold Xoe
      rw [Xhs _ (by omega), show 4 * (j / 4) = 4 * r by omega]
      obtain h | h | h | h : j = 4 * r ∨ j = 4 * r + 1 ∨ j = 4 * r + 2 ∨ j = 4 * r + 3 := by omega
      ·
       rw [h, show 4 * r - 4 * r = 0 by omega, show (4 * r) % 4 = 0 by omega]; rfl
      ·
       rw [h, show 4 * r + 1 - 4 * r = 1 by omega, show (4 * r + 1) % 4 = 1 by omega]; rfl
      ·
       rw [h, show 4 * r + 2 - 4 * r = 2 by omega, show (4 * r + 2) % 4 = 2 by omega]; rfl
      ·
       rw [h, show 4 * r + 3 - 4 * r = 3 by omega, show (4 * r + 3) % 4 = 3 by omega]; rfl
     ·
      rw [if_neg (by omega)]; exact h2 j (by omega)
    ·
     intro j hj
     rw [Ycm (by simp only [List.length_cons, List.length_nil]; omega), if_neg (by simp only [List.length_cons, List.length_nil]; omega)]
     exact h3 j (by omega)
  exact key 0 (by omega) p hp (fun j hj => by omega) fun _ _ => rfl
 rw [hA, Xad]
 generalize hR : Xoe t p = R
 have hl : R.length = 16 := by rw [← hR]; exact Xpr t p
 have hC : loop (tgC q) (0, R) = some (Xop (Xoe t (Xop R))) := by
  have at4 : ∀ j : Nat, j < 16 → (Xop (Xoe t (Xop R))).getD j 0 = Yco (t (R.getD (j % 4) 0) (R.getD (j % 4 + 4) 0) (R.getD (j % 4 + 8) 0) (R.getD (j % 4 + 12) 0)) (j / 4) := by
   intro j hj
   rw [Xop, Xhs _ hj, Xoe, Xhs _ (by omega), Xop, Xhs _ (by omega), Xhs _ (by omega), Xhs _ (by omega), Xhs _ (by omega)]
   rw [show (j % 4 * 4 + j / 4) / 4 = j % 4 by omega, show (j % 4 * 4 + j / 4) % 4 = j / 4 by omega, show 4 * (j % 4) % 4 * 4 + 4 * (j % 4) / 4 = j % 4 by omega, show (4 * (j % 4) + 1) % 4 * 4 + (4 * (j % 4) + 1) / 4 = j % 4 + 4 by omega, show (4 * (j % 4) + 2) % 4 * 4 + (4 * (j % 4) + 2) / 4 = j % 4 + 8 by omega, show (4 * (j % 4) + 3) % 4 * 4 + (4 * (j % 4) + 3) / 4 = j % 4 + 12 by omega]
  obtain ⟨o, e, o1, o2, _⟩ := Xiu (f := tgC q) 4 (fun c s => s.length = 16 ∧ (∀ j, j < 16 → j % 4 < c → s.getD j 0 = (Xop (Xoe t (Xop R))).getD j 0) ∧ ∀ j, j < 16 → c ≤ j % 4 → s.getD j 0 = R.getD j 0) (by
   intro c s hc ⟨g1, g2, g3⟩
   obtain ⟨r, er, r1, r2, r3⟩ := Xiu (f := tgB ((c : Int), s) (t (R.getD c 0) (R.getD (c + 4) 0) (R.getD (c + 8) 0) (R.getD (c + 12) 0))) 4 (fun i s' => s'.length = 16 ∧ (∀ j, j < 16 → j % 4 ≠ c → s'.getD j 0 = s.getD j 0) ∧ ∀ j, j < 16 → j % 4 = c → j / 4 < i → s'.getD j 0 = Yco (t (R.getD c 0) (R.getD (c + 4) 0) (R.getD (c + 8) 0) (R.getD (c + 12) 0)) (j / 4)) (by
    intro i s' hi ⟨k1, k2, k3⟩
    unfold tgB
    simp only
    rw [syA, Xby (by simp only [List.length_cons, List.length_nil]; omega), wkA (e := 4 * (i : Int)), wkA (e := (c : Int) + 4 * (i : Int)), rqA, rqA, wkA (e := (i : Int) + 1), show ((c : Int) + 4 * (i : Int)).toNat = c + 4 * i by omega, Int.toNat_natCast]
    refine ⟨_, rfl, by rw [List.length_set]; exact k1, fun j hj hjc => ?_, fun j hj hjc hji => ?_⟩
    ·
     rw [Xd5 _ _ _ _ (by omega), if_neg (by omega)]; exact k2 j hj hjc
    ·
     rw [Xd5 _ _ _ _ (by omega)]
     by_cases h : c + 4 * i = j
     ·
      rw [if_pos h, show j / 4 = i by omega]; rfl
     ·
      rw [if_neg h]; exact k3 j hj hjc (by omega)) (fun z _ => by unfold tgB; rw [Xaz (by simp)]) s ⟨g1, fun _ _ _ => rfl, fun j hj hjc hji => by omega⟩
   unfold tgC
   simp only
   rw [syA, wkA (e := (c : Int) + 4), wkA (e := (c : Int) + 8), wkA (e := (c : Int) + 12), rqA, rqA, rqA, rqA, rqA, rqA, rqA, rqA, hq, Xad, show ((c : Int) + 4).toNat = c + 4 by omega, show ((c : Int) + 8).toNat = c + 8 by omega, show ((c : Int) + 12).toNat = c + 12 by omega, Int.toNat_natCast, g3 c (by omega) (by omega), g3 (c + 4) (by omega) (by omega), g3 (c + 8) (by omega) (by omega), g3 (c + 12) (by omega) (by omega), er, Xad, wkA (e := (c : Int) + 1)]
   refine ⟨r, rfl, r1, fun j hj hjc => ?_, fun j hj hjc => ?_⟩
   ·
    by_cases h : j % 4 = c
    ·
     rw [r3 j hj h (by omega), at4 j hj, h]
    ·
     rw [r2 j hj h]; exact g2 j hj (by omega)
   ·
    rw [r2 j hj (by omega)]; exact g3 j hj (by omega)) (fun z _ => by unfold tgC; rw [Xaz (by simp)]) R ⟨hl, fun j hj hjc => by omega, fun _ _ _ => rfl⟩
  rw [e]
  congr 1
  exact Xva o1 (Xoq _) fun j hj => o2 j hj (by omega)
 rw [hC, Xad]
theorem Xmm (p : List Int) (hl : p.length = 16) : Xd2 p = some (Xop p) := by
 unfold Xd2
 rw [rqA]
 obtain ⟨o, e, o1, o2⟩ := Xiu (f := Xcg p) 16 (fun i s => s.length = 16 ∧ ∀ j, j < 16 → j % 4 * 4 + j / 4 < i → s.getD j 0 = p.getD (j % 4 * 4 + j / 4) 0) (by
  intro i s hi ⟨g1, g2⟩
  unfold Xcg
  simp only
  rw [syA, rqA, rqA, rqA, Xci (by omega), Xbk (by omega), wkA (e := (i : Int) / 4), wkA (e := (i : Int) % 4 * 4), wkA (e := (i : Int) % 4 * 4 + (i : Int) / 4), rqA, rqA, wkA (e := (i : Int) + 1), Int.toNat_natCast, show ((i : Int) % 4 * 4 + (i : Int) / 4).toNat = i % 4 * 4 + i / 4 by omega]
  refine ⟨_, rfl, by rw [List.length_set]; exact g1, fun j hj hji => ?_⟩
  rw [Xd5 _ _ _ _ (by omega)]
  by_cases h : i % 4 * 4 + i / 4 = j
  ·
   rw [if_pos h, show j % 4 * 4 + j / 4 = i by omega]
  ·
   rw [if_neg h]; exact g2 j hj (by omega)) (fun z _ => by unfold Xcg; rw [Xaz (by simp)]) (List.replicate (16 : Int).toNat 0) ⟨by simp, fun j hj h => by omega⟩
 rw [e, Xad]
 congr 1
 exact Xva o1 (Xoq p) fun j hj => by rw [o2 j hj (by omega), Xop, Xhs _ hj]
theorem Yhb {f : Int × List Int → Option (Lp (Int × List Int) (List Int))} {t : Int → Int → Int → Int → Q4} (p : List Int) (h : ∀ (i : Nat) (s : List Int), i < 4 → s.length = 4 * i → f ((i : Int), s) = some (.go (((i + 1 : Nat) : Int), s ++ [(t (p.getD (4 * i) 0) (p.getD (4 * i + 1) 0) (p.getD (4 * i + 2) 0) (p.getD (4 * i + 3) 0)).1, (t (p.getD (4 * i) 0) (p.getD (4 * i + 1) 0) (p.getD (4 * i + 2) 0) (p.getD (4 * i + 3) 0)).2.1, (t (p.getD (4 * i) 0) (p.getD (4 * i + 1) 0) (p.getD (4 * i + 2) 0) (p.getD (4 * i + 3) 0)).2.2.1, (t (p.getD (4 * i) 0) (p.getD (4 * i + 1) 0) (p.getD (4 * i + 2) 0) (p.getD (4 * i + 3) 0)).2.2.2]))) (he : ∀ s, f (4, s) = some (.done s)) : loop f (0, []) = some (Xoe t p) := by
 obtain ⟨o, e, ho⟩ := Xiu (f := f) 4 (fun i s => s = (List.range (4 * i)).map fun j => Yco (t (p.getD (4 * (j / 4)) 0) (p.getD (4 * (j / 4) + 1) 0) (p.getD (4 * (j / 4) + 2) 0) (p.getD (4 * (j / 4) + 3) 0)) (j % 4)) (by
  intro i s hi g
  refine ⟨_, h i s hi (by rw [g]; simp), ?_⟩
  rw [g, show 4 * (i + 1) = 4 * i + 1 + 1 + 1 + 1 by omega]
  simp only [List.range_succ, List.map_append, List.map_singleton, List.append_assoc]
  rw [show (4 * i + 1 + 1 + 1) / 4 = i by omega, show (4 * i + 1 + 1) / 4 = i by omega, show (4 * i + 1) / 4 = i by omega, show 4 * i / 4 = i by omega, show (4 * i + 1 + 1 + 1) % 4 = 3 by omega, show (4 * i + 1 + 1) % 4 = 2 by omega, show (4 * i + 1) % 4 = 1 by omega, show 4 * i % 4 = 0 by omega]
  rfl) (fun z _ => he z) [] rfl
 rw [e, ho]; rfl
def Xyt (a b : Int) : Int := Xaa .i64 (if a.tmod b < 0 then Xaa .i64 (a.tdiv b) - 1 else a.tdiv b)
theorem Xmx (a b : Int) (hb : b ≠ 0) : Xb1 a b = some (Xyt a b) := by
 unfold Xb1 Xyt
 rw [Xby hb, Xby hb, Yhh]
 split <;> rfl
def t4B (a b c d : Int) : Q4 := (Xaa .i64 ((Xaa .i64 (a + c)) + (Xaa .i64 (b + Xyt d 2))), Xaa .i64 ((Xaa .i64 (a - c)) + (Xaa .i64 (Xyt b 2 - d))), Xaa .i64 ((Xaa .i64 (a - c)) - (Xaa .i64 (Xyt b 2 - d))), Xaa .i64 ((Xaa .i64 (a + c)) - (Xaa .i64 (b + Xyt d 2))))
theorem Xou (a b c d : Int) : Xcz a b c d = some (t4B a b c d) := by
 unfold Xcz
 rw [Ydl, Xmx b 2 (by omega), Xmx d 2 (by omega), Xad, Xad]; rfl
theorem Xlo (p : List Int) (hl : p.length = 16) : Xdc p = some (Xoe t4B p) := by
 have hm : maxLen = 9223372036854775807 := rfl
 unfold Xdc
 rw [Yhb (f := Xb0 p) (t := t4B) p (by
  intro i s hi hs
  unfold Xb0
  simp only
  rw [syA, wkA (e := 4 * (i : Int)), wkA (e := 4 * (i : Int) + 1), wkA (e := 4 * (i : Int) + 2), wkA (e := 4 * (i : Int) + 3), rqA, rqA, rqA, rqA, show (4 * (i : Int)).toNat = 4 * i by omega, show (4 * (i : Int) + 1).toNat = 4 * i + 1 by omega, show (4 * (i : Int) + 2).toNat = 4 * i + 2 by omega, show (4 * (i : Int) + 3).toNat = 4 * i + 3 by omega, Xmx _ 2 (by omega), Xad, Xmx _ 2 (by omega), Xad, wkA (e := (i : Int) + 1), Xby (by simp only [List.length_cons, List.length_nil]; omega)]
  rfl) (by intro s; unfold Xb0; rw [Xaz (by simp)]), Xad]
theorem Xw0 (p : List Int) (hl : p.length = 16) (hb : inB 10000000 p) : Xgq p = Xd8 p := by
 unfold Xgq Xd8
 rw [Xtw p 16 10000000 (by omega) (by omega) hb, Xgd p 16 10000000 (by omega) (by omega) (by omega) hb, Xad, Xad, Bool.not_true, Xav, Xav, Yht, Yjc Xou p hl, Xlo p hl, Xad, Xad, Xmm _ (Xpr _ _), Xad, Xlo _ (Xoq _), Xad, Xmm _ (Xpr _ _), Xad]
 exact Xpu _ 16 (by omega) (Xoq _) (fun _ => rfl)
theorem Yao {β : Type} {c : Prop} [Decidable c] {k k' : Option β} (h : c → k = k') : req c k = req c k' := by
 by_cases hc : c
 ·
  rw [Xby hc, Xby hc, h hc]
 ·
  unfold req; rw [if_neg hc, if_neg hc]
theorem Xnl {β : Type} {c : Prop} [Decidable c] {k k' : Option β} (h0 : c) (h : k = k') : req c k = k' := by rw [Xby h0, h]
theorem Yd3 {β : Type} {b : Bool} {x x' y y' : β} (h : b = true → x = x') (h2 : b = false → y = y') : sel b x y = sel b x' y' := by
 cases b
 ·
  exact h2 rfl
 ·
  exact h rfl
theorem Yjy {α β : Type} {x x' : Option α} {f f' : α → Option β} (h : x = x') (h2 : ∀ a, x' = some a → f a = f' a) : bnd x f = bnd x' f' := by
 subst h
 cases x with
 | none => rfl
 | some a => exact h2 a rfl
theorem Ygx {V O : Type} {f : V → Option (Lp V O)} (I : V → Prop) (J : O → Prop) (h1 : ∀ v v', I v → f v = some (.go v') → I v') (h2 : ∀ v o, I v → f v = some (.done o) → J o) {v : V} {o : O} (h : loop f v = some o) (hv : I v) : J o := by
 obtain ⟨k, hk⟩ := Xfi.1 h
 clear h
 induction k generalizing v with
 | zero => cases hk
 | succ k ih =>
  rw [it] at hk
  cases e : f v with
  | none => rw [e] at hk; cases hk
  | some s =>
   rw [e] at hk
   cases s with
   | go y => exact ih (h1 v y hv e) hk
   | done o' => cases hk; exact h2 v o hv e
theorem Xtr (l qp p : Int) (h0 : 0 ≤ qp ∧ qp ≤ 40) (hp : 0 ≤ p ∧ p ≤ 15) : Xfq l qp p = Xdl l qp p := by
 unfold Xfq Xdl
 rw [Xaj, Xai, Xzc qp p h0 hp]
theorem Xtq (l qp : Int) (h0 : 0 ≤ qp ∧ qp ≤ 40) : Xfo l qp = Xdk l qp := by
 unfold Xfo Xdk
 rw [Xaj, Xai, Ybi qp h0]
def Xpq (k : Int) (v7 : Int × List Int) : Option (Lp (Int × List Int) (List Int)) :=
 sel (decide (v7.1 < 4)) (
 bnd (it (Xih k v7) 10 (0, v7.2)) fun v18 =>
 some (.go (Xaa .i64 (v7.1 + 1), v18))) (
 some (.done v7.2))
theorem Ycr {k : Int} {v : Int × List Int} {x : Lp (Int × List Int) (List Int)} (h : Xpq k v = some x) : Xfz k v = some x := by
 unfold Xpq at h
 unfold Xfz
 rcases Xlb h with ⟨hb, h⟩ | ⟨hb, h⟩
 ·
  rw [hb, Xau]
  obtain ⟨a, h1, h2⟩ := Xbd h
  rw [Xfi.2 ⟨10, h1⟩, Xad]
  exact h2
 ·
  rw [hb, Xav]; exact h
def Xjn (k : Int) : List Int := (it (Xpq k) 10 (0, [])).getD []
def Xja (k i : Int) : Int := (Xaa .i64 ((Xaa .i64 ((Xaa .i64 (8 * (Xaa .i64 ((Xaa .i64 ((Xaa .i64 (k.tdiv 2)) * 4)) + (Xaa .i64 (i.tdiv 4)))))) + (Xaa .i64 ((k.tmod 2) * 4)))) + (i.tmod 4)))
theorem Ydz : ∀ k : Fin 4, (it (Xpq (k.val : Int)) 10 (0, [])).isSome = true ∧ (Xjn (k.val : Int)).length = 16 ∧ ∀ i : Fin 16, (Xjn (k.val : Int)).getD i.val 0 = Xja (k.val : Int) (i.val : Int) ∧ 0 ≤ Xja (k.val : Int) (i.val : Int) ∧ Xja (k.val : Int) (i.val : Int) < 64 := by decide +kernel
theorem Xuz (k : Nat) (hk : k < 4) : Xh5 k = some (Xjn k) ∧ (Xjn k).length = 16 ∧ ∀ i : Nat, i < 16 → (Xjn k).getD i 0 = Xja k i ∧ 0 ≤ Xja k i ∧ Xja k i < 64 := by
 obtain ⟨h1, h2, h3⟩ := Ydz ⟨k, hk⟩
 refine ⟨?_, h2, fun i hi => h3 ⟨i, hi⟩⟩
 obtain ⟨o, ho⟩ := Option.isSome_iff_exists.1 h1
 have hl := Ydv 10 (Yik (fun v y => Ycr (k := (k : Int))) 10 _ ho)
 unfold Xh5
 rw [hl, Xad]
 unfold Xjn; simp only at ho; rw [ho]; rfl
theorem Xlf (p : List Int) (c : Xf8) (hc : Xgl c = true) (hp : Yfm p = true) : Xeo p c = Xcf p c := by
 have hq := Ybr hc
 obtain ⟨hl, hb⟩ := Ygy hp
 unfold Xeo Xcf
 rw [Xdh, Xcr, Xj9 p (by omega), hp, hc, Xgd p 64 5000 (by omega) (by omega) (by omega) hb]
 simp only [Xad, Xau, Bool.not_true, Xav]
 rw [Xl2 8 (Or.inr rfl) p (by omega)]
 refine Yd3 (fun _ => rfl) fun _ => Yd3 (fun _ => ?_) fun _ => ?_
 ·
  obtain ⟨w, ew, w1, w2⟩ := Xdv 8 (Or.inr rfl) p 5000 (by omega) (by omega) hb
  rw [ew, Xad, Xad]
  have hloop : loop (Xc6 c (w, true)) (0, (w, true).1) = loop (Xa6 c) (0, (w, true).1) := by
   have : Xc6 c (w, true) = Xa6 c := by
    funext v
    unfold Xc6 Xa6
    simp only [Xtq _ _ hq, w1, hl]
    rfl
   rw [this]
  rw [hloop]
  obtain ⟨l, el, l1, l2⟩ := Xmy (f := Xa6 c) 64 (fun x => -5000 ≤ x ∧ x ≤ 5000) (fun x => -5760000 ≤ x ∧ x ≤ 5760000) (by
   intro i l hi hll hx
   obtain ⟨d, ed, d1, d2⟩ := Xkj (l.getD i 0) c.Qp hx hq
   unfold Xa6
   simp only [Int.toNat_natCast]
   rw [syA, rqA, rqA, ed, Xad, rqA, rqA, wkA (e := (i : Int) + 1)]
   exact ⟨d, rfl, d1, d2⟩) (by intro s; unfold Xa6; rw [Xaz (by simp)]) w (by omega) w2
  simp only [el, Xad]
  rw [Xtp l l1 (Xz6 l2 (by omega))]
 ·
  refine Yao fun _ => Yjy ?_ fun _ _ => rfl
  refine Xq2 (fun v => (∃ k : Nat, v.1 = (k : Int) ∧ k ≤ 4) ∧ v.2.length = 64) ?_ ?_ ⟨⟨0, rfl, by omega⟩, by simp⟩
  ·
   intro ⟨k0, s⟩ ⟨⟨k, ek, hk⟩, hs⟩
   simp only at ek hs
   subst ek
   unfold Xf4 Xbm
   simp only
   refine Yd3 (fun hk4 => ?_) fun _ => rfl
   have hk4 : k < 4 := by have := of_decide_eq_true hk4; omega
   rw [wkA (e := 16 * (k : Int)), wkA (e := 16 * (k : Int) + 16)]
   refine Yao fun _ => ?_
   rw [show (16 * (k : Int)).toNat = 16 * k by omega, show (16 * (k : Int) + 16).toNat - 16 * k = 16 by omega]
   have hcut : ((p.drop (16 * k)).take 16).length = 16 := by rw [List.length_take, List.length_drop]; omega
   obtain ⟨a, ea, a1, a2⟩ := Xdv 4 (Or.inl rfl) ((p.drop (16 * k)).take 16) 5000 (by omega) (by omega) (Yen (Yem hb _) _)
   rw [Xl2 4 (Or.inl rfl) _ (by omega), ea, Xad, Xad]
   have hloop : loop (Xc0 c (a, true)) (0, (a, true).1) = loop (Xa3 c) (0, (a, true).1) := by
    have : Xc0 c (a, true) = Xa3 c := by
     funext v
     unfold Xc0 Xa3
     simp only [show ((a.length : Nat) : Int) = 16 by omega]
     refine Yd3 (fun h16 => ?_) fun _ => rfl
     have := of_decide_eq_true h16
     refine Yao fun h0 => Yao fun _ => ?_
     rw [Xtr _ _ _ hq (by omega)]
    rw [this]
   rw [hloop]
   obtain ⟨l, el, l1, l2⟩ := Xmy (f := Xa3 c) 16 (fun x => -5000 ≤ x ∧ x ≤ 5000) (fun x => -10000000 ≤ x ∧ x ≤ 10000000) (by
    intro i l hi hll hx
    obtain ⟨d, ed, d1, d2⟩ := Xkn (l.getD i 0) c.Qp i hx hq (by omega)
    unfold Xa3
    simp only [Int.toNat_natCast]
    rw [syA, rqA, rqA, ed, Xad, rqA, rqA, wkA (e := (i : Int) + 1)]
    exact ⟨d, rfl, d1, d2⟩) (by intro s; unfold Xa3; rw [Xaz (by simp)]) a (by omega) a2
   obtain ⟨b, eb, b1, b2⟩ := Xll l l1 l2
   obtain ⟨q1, q2, q3⟩ := Xuz k hk4
   simp only [el, Xad]
   rw [Xw0 l l1 l2, eb, Xad, Xad, q1, Xad]
   refine Yjy ?_ fun _ _ => rfl
   have : Xd6 b (Xjn k) = Xa7 ((k : Int), s) b := by
    funext v
    unfold Xd6 Xa7
    simp only [show (((Xjn k).length : Nat) : Int) = 16 by omega]
    refine Yd3 (fun h16 => ?_) fun _ => rfl
    have h16 := of_decide_eq_true h16
    by_cases h0 : 0 ≤ v.1
    ·
     obtain ⟨i, hi⟩ : ∃ i : Nat, v.1 = (i : Int) := ⟨v.1.toNat, by omega⟩
     obtain ⟨v1, v2⟩ := v
     simp only at hi h0 h16
     subst hi
     obtain ⟨r1, r2, r3⟩ := q3 i (by omega)
     have e1 : (Xaa .i64 ((Xaa .i64 ((Xaa .i64 (8 * (Xaa .i64 ((Xaa .i64 ((Xaa .i64 ((k : Int).tdiv 2)) * 4)) + (Xaa .i64 ((i : Int).tdiv 4)))))) + (Xaa .i64 (((k : Int).tmod 2) * 4)))) + ((i : Int).tmod 4))) = Xja k i := rfl
     simp only [Int.toNat_natCast, r1, e1]
     refine Xnl (by omega) (Xnl (by omega) (Xnl (by omega) (Xnl (by omega) ?_)))
     refine (Xnl (by omega) (Xnl (by omega) (Xnl (by omega) (Xnl (by omega) (Xnl (by omega) (Xnl (by omega) ?_)))))).symm
     rfl
    ·
     unfold req
     rw [if_neg (by omega), if_pos (by omega), if_pos (by omega), if_pos (by omega), if_pos (by omega), if_neg (by omega)]
   rw [this]
  ·
   intro ⟨k0, s⟩ v' ⟨⟨k, ek, hk⟩, hs⟩ he
   simp only at ek hs
   subst ek
   unfold Xbm at he
   simp only at he
   rcases Xlb he with ⟨hb4, he⟩ | ⟨_, he⟩
   ·
    have hk4 : k < 4 := by have := of_decide_eq_true hb4; omega
    obtain ⟨_, he⟩ := Xay he
    obtain ⟨a, _, he⟩ := Xbd he
    obtain ⟨l, _, he⟩ := Xbd he
    obtain ⟨b, _, he⟩ := Xbd he
    obtain ⟨r, hr, he⟩ := Xbd he
    rw [wkA (e := (k : Int) + 1)] at he
    cases he
    refine ⟨⟨k + 1, rfl, by omega⟩, ?_⟩
    refine Ygx (f := Xa7 ((k : Int), s) b) (fun v => v.2.length = 64) (fun o => o.length = 64) ?_ ?_ hr hs
    ·
     intro v v' hv he
     unfold Xa7 at he
     rcases Xlb he with ⟨_, he⟩ | ⟨_, he⟩
     ·
      obtain ⟨_, he⟩ := Xay he
      obtain ⟨_, he⟩ := Xay he
      obtain ⟨_, he⟩ := Xay he
      obtain ⟨_, he⟩ := Xay he
      obtain ⟨_, he⟩ := Xay he
      obtain ⟨_, he⟩ := Xay he
      obtain ⟨_, he⟩ := Xay he
      obtain ⟨_, he⟩ := Xay he
      cases he
      simp only [List.length_set]; exact hv
     ·
      cases he
    ·
     intro v o hv he
     unfold Xa7 at he
     rcases Xlb he with ⟨_, he⟩ | ⟨_, he⟩
     ·
      obtain ⟨_, he⟩ := Xay he
      obtain ⟨_, he⟩ := Xay he
      obtain ⟨_, he⟩ := Xay he
      obtain ⟨_, he⟩ := Xay he
      obtain ⟨_, he⟩ := Xay he
      obtain ⟨_, he⟩ := Xay he
      obtain ⟨_, he⟩ := Xay he
      obtain ⟨_, he⟩ := Xay he
      cases he
     ·
      cases he; exact hv
   ·
    cases he
theorem Yis {S O : Type} {f g : Int × S → Option (Lp (Int × S) O)} (n : Nat) (I : Nat → S → Prop) (h : ∀ (i : Nat) (s : S), i ≤ n → I i s → f ((i : Int), s) = g ((i : Int), s)) (hI : ∀ (i : Nat) (s : S) (v' : Int × S), i ≤ n → I i s → g ((i : Int), s) = some (.go v') → v'.1 = ((i + 1 : Nat) : Int) ∧ i + 1 ≤ n ∧ I (i + 1) v'.2) {s0 : S} (h0 : I 0 s0) : loop f (0, s0) = loop g (0, s0) := by
 refine Xq2 (fun v => ∃ i : Nat, v.1 = (i : Int) ∧ i ≤ n ∧ I i v.2) ?_ ?_ ⟨0, rfl, by omega, h0⟩
 ·
  intro ⟨k, s⟩ ⟨i, e, hi, hs⟩
  simp only at e hs
  subst e
  exact h i s hi hs
 ·
  intro ⟨k, s⟩ v' ⟨i, e, hi, hs⟩ he
  simp only at e hs
  subst e
  obtain ⟨a, b, c⟩ := hI i s v' hi hs he
  exact ⟨i + 1, a, b, c⟩
theorem Ybs {p : Pic} (ok : Xdn p = true) (x y : Int) : Xc9 p x y = Xdt p x y := by rw [Xuq ok, Xg2 ok]
theorem Xmc {p : Pic} (ok : Xdn p = true) {x y : Int} (hx : x.tmod 8 = 0) (hy : y.tmod 8 = 0) (h : Xhz p x y = true) : Xb4 p x y = some true := Xr7 ok x y hx hy h
theorem Xy9 {p : Pic} (ok : Xdn p = true) {x y : Int} (hx : x.tmod 8 = 0) (hy : y.tmod 8 = 0) (h : Xhz p x y = true) : Xh1 p x y = Xey p x y := by
 unfold Xh1 Xey
 rw [Xfa, ok, Xmc ok hx hy h, Xik ok hx hy h]
 have : Xgp p x y = Xc2 p x y := by
  funext v
  unfold Xgp Xc2
  simp only [Ybs ok]
 simp only [Xad, Xau, Bool.not_true, Xav, this, Ybs ok]
theorem Ydc {e : Xha} (h : Xrm e) : Xh2 e = some true := by
 obtain ⟨h1, h2, h3, h4, h5, h6⟩ := h
 have side : ∀ l : List Int, (l.length = 0 ∨ l.length = 8) → (∀ x ∈ l, 0 ≤ x ∧ x ≤ 255) → bnd (sel (decide ((l.length : Int) > 0)) (bnd (Xcx l 8 0 255) fun q10 => some (!q10)) (some false)) (fun v9 => some v9) = some false := by
  intro l hl hb
  rcases hl with e | e
  ·
   rw [snA]; rfl
  ·
   rw [syA, Xiq l 8 0 255 (by omega)]
   have : (l.all fun x => decide (0 ≤ x ∧ x ≤ 255)) = true := List.all_eq_true.2 fun x hx => decide_eq_true (hb x hx)
   rw [this, e]; rfl
 have go : ∀ (i : Nat) (l : List Int), i < 2 → ([e.Above, e.Left]).getD i Xtj = l → (l.length = 0 ∨ l.length = 8) → (∀ x ∈ l, 0 ≤ x ∧ x ≤ 255) → Xdp e (i : Int) = some (.go ((i + 1 : Nat) : Int)) := by
  intro i l hi hg hl hb
  unfold Xdp
  simp only [Int.toNat_natCast, hg]
  have hs := side l hl hb
  rw [Xeu (by simp only [List.length_cons, List.length_nil]; omega), Xby (by simp only [List.length_cons, List.length_nil]; omega), Xby (by simp only [List.length_cons, List.length_nil]; omega)]
  obtain ⟨a, ea, hs⟩ := Xbd hs
  injection hs with hs
  subst hs
  rw [ea, Xad, Xav, wkA]
  rfl
 unfold Xh2
 have : loop (Xdp e) 0 = some (.out ()) := by
  refine lgo (go 0 e.Above (by omega) rfl h1 h3) (lgo (go 1 e.Left (by omega) rfl h2 h4) (Xel ?_))
  unfold Xdp
  rw [Xaz (by simp)]
 rw [this, Xad, Xaj, Xad, decide_eq_true ⟨h5, h6⟩]
def Yfb (l : List Int) : Nat → Int
 | 0 => 0
 | n + 1 => Yfb l n + l.getD n 0
theorem Xm3 {l : List Int} (h : ∀ x ∈ l, 0 ≤ x ∧ x ≤ 255) : ∀ n : Nat, n ≤ l.length → 0 ≤ Yfb l n ∧ Yfb l n ≤ 255 * n
 | 0, _ => by simp [Yfb]
 | n + 1, hn => by
  have a := Xm3 h n (by omega)
  have b := h (l.getD n 0) (by rw [Xcm l n (by omega)]; exact List.getElem_mem _)
  rw [Yfb]; omega
theorem Ya9 {f : Int × Int → Option (Lp (Int × Int) Int)} {l : List Int} (hl : l.length ≤ 64) (h : ∀ x ∈ l, 0 ≤ x ∧ x ≤ 255) (hf : ∀ v, f v = sel (decide (v.2 < (l.length : Int))) (req (0 ≤ v.2 ∧ v.2 < l.length) <| some (.go (Xaa .i64 (v.1 + (l.getD v.2.toNat 0)), Xaa .i64 (v.2 + 1)))) (some (.done v.1))) (a : Int) (ha : 0 ≤ a ∧ a ≤ 100000) : loop f (a, 0) = some (a + Yfb l l.length) := by
 obtain ⟨o, e, ho⟩ := Xjj (f := f) l.length (fun i s => s = a + Yfb l i) (by
  intro i s hi g
  have r := Xm3 h i (by omega)
  have b := h (l.getD i 0) (by rw [Xcm l i (by omega)]; exact List.getElem_mem _)
  rw [hf]
  simp only [Int.toNat_natCast]
  rw [syA, rqA, wkA (e := s + l.getD i 0), wkA (e := (i : Int) + 1)]
  exact ⟨_, rfl, by rw [Yfb]; omega⟩) (by intro s; rw [hf, Xaz (by simp)]) a (by simp [Yfb])
 rw [e, ho]
theorem Xpk {l : List Int} (hl : l.length ≤ 64) (h : ∀ x ∈ l, 0 ≤ x ∧ x ≤ 255) : Xgc l = some (Yfb l l.length) := by
 unfold Xgc
 rw [Ya9 (f := Xk3 l) hl h (fun _ => rfl) 0 (by omega), Xad, Int.zero_add]
theorem Yg2 {e : Xha} (h : Xrm e) : (sel (decide ((Xaa .i64 ((e.Above.length : Int) + (e.Left.length : Int))) > 0)) (bnd (Xgc e.Above) fun q5 => bnd (Xgc e.Left) fun q6 => req ((2 : Int) ≠ 0) <| req ((Xaa .i64 ((e.Above.length : Int) + (e.Left.length : Int))) ≠ 0) <|
  some (Xaa .i64 ((Xaa .i64 ((Xaa .i64 (q5 + q6)) + (Xaa .i64 ((Xaa .i64 ((e.Above.length : Int) + (e.Left.length : Int))).tdiv 2)))).tdiv (Xaa .i64 ((e.Above.length : Int) + (e.Left.length : Int)))))) (some 128)) = Xf7 e := by
 obtain ⟨h1, h2, h3, h4, h5, h6⟩ := h
 unfold Xf7
 have r1 := Xm3 h3 e.Above.length (Nat.le_refl _)
 have r2 := Xm3 h4 e.Left.length (Nat.le_refl _)
 rw [wkA (e := (e.Above.length : Int) + (e.Left.length : Int))]
 by_cases hz : (e.Above.length : Int) + (e.Left.length : Int) = 0
 ·
  rw [snA, Xcp (by simpa using hz)]
 ·
  rw [syA, Xbw (by simpa using hz), Xpk (by omega) h3, Xad, Xpk (by omega) h4, Xad, rqA, Xby hz, rqA, Xbk (a := (e.Above.length : Int) + (e.Left.length : Int)) (by omega), wkA (e := ((e.Above.length : Int) + (e.Left.length : Int)) / 2),
   Ya9 (f := Xej e) (by omega) h3 (fun _ => rfl) _ (by omega), Xad, Ya9 (f := Xek e) (by omega) h4 (fun _ => rfl) _ (by omega), Xad, Xby hz, wkA (e := Yfb e.Above e.Above.length + Yfb e.Left e.Left.length), wkA (e := Yfb e.Above e.Above.length + Yfb e.Left e.Left.length + ((e.Above.length : Int) + (e.Left.length : Int)) / 2)]
  congr 3; omega
theorem Ycl (l : List Int) (hl : l.length = 0 ∨ l.length = 8) : ∃ g, Xhg l = some g ∧ g.length = 8 ∧ ∀ k : Nat, k < 8 → Xca l k = some (g.getD k 0) := by
 unfold Xhg
 rcases hl with e | e
 ·
  refine ⟨_, Xcp (by rw [e]; rfl), rfl, fun k hk => ?_⟩
  unfold Xca
  rw [Xcp (by rw [e]; rfl)]
  congr 1
  obtain rfl | rfl | rfl | rfl | rfl | rfl | rfl | rfl : k = 0 ∨ k = 1 ∨ k = 2 ∨ k = 3 ∨ k = 4 ∨ k = 5 ∨ k = 6 ∨ k = 7 := by omega
  all_goals rfl
 ·
  refine ⟨l, Xbw (by rw [e]; rfl), e, fun k hk => ?_⟩
  unfold Xca
  rw [Xbw (by rw [e]; rfl), rqA, Int.toNat_natCast]
theorem Xzm (n a b : Int) : Xc5 n a b = Xdb n a b := by rw [Xgo, Xds]
def Xql (m mid v : Int) (A B : List Int) (i : Nat) : Int := sel (m == 0) mid (sel (m == 1) (A.getD (i % 8) 0) (sel (m == 2) (B.getD (i / 8) 0) (Xcc (Xaa .i64 (Xaa .i64 (B.getD (i / 8) 0 + A.getD (i % 8) 0) - v)) 0 255)))
theorem Yfl {f1 : Int × List Int → Option (Lp (Int × List Int) (List Int))} {f2 : Int × List Int → Int × List Int → Option (Lp (Int × List Int) (List Int))} (g : Nat → Int)
  (h1 : ∀ v, f1 v = sel (decide (v.1 < 8)) (bnd (loop (f2 v) (0, v.2)) fun w => some (.go (Xaa .i64 (v.1 + 1), w))) (some (.done v.2)))
  (h2 : ∀ (r c : Nat) (a s : List Int), r < 8 → c < 8 → s.length = 8 * r + c → f2 ((r : Int), a) ((c : Int), s) = some (.go (((c + 1 : Nat) : Int), s ++ [g (8 * r + c)])))
  (h3 : ∀ (r : Nat) (a s : List Int), f2 ((r : Int), a) (8, s) = some (.done s)) : loop f1 (0, []) = some ((List.range 64).map g) := by
 obtain ⟨o, e, ho⟩ := Xdy (f := f1) 8 (fun r s => s = (List.range (8 * r)).map g) (by
  intro r s hr hs
  obtain ⟨q, eq, hq⟩ := Xiu (f := f2 ((r : Int), s)) 8 (fun c s' => s' = (List.range (8 * r + c)).map g) (by
   intro c s' hc hs'
   exact ⟨_, h2 r c s s' hr hc (by rw [hs']; simp), by rw [hs', show 8 * r + (c + 1) = (8 * r + c) + 1 by omega, List.range_succ, List.map_append]; rfl⟩) (fun z _ => h3 r s z) s hs
  rw [h1]
  refine ⟨q, ?_, by rw [hq, show 8 * (r + 1) = 8 * r + 8 by omega]⟩
  simp only
  rw [syA, eq, Xad, wkA]
  rfl) (by intro s; rw [h1, Xaz (by simp)]) [] rfl
 rw [e, ho]
theorem Ybh (m : Int) (hm0 : 0 ≤ m ∧ m ≤ 3) {e : Xha} (h : Xrm e) : ∃ g, Xga m e = some g ∧ Xd1 m e = some g := by
 have hm : maxLen = 9223372036854775807 := rfl
 obtain ⟨mid, em, m1, m2⟩ := Xnt h
 obtain ⟨A, eA, hA, fA⟩ := Ycl e.Above h.1
 obtain ⟨B, eB, hB, fB⟩ := Ycl e.Left h.2.1
 obtain ⟨v, ev⟩ : ∃ v, sel (decide (e.Corner < 0)) (some (128 : Int)) (some e.Corner) = some v := by rw [Yhj]; exact ⟨_, rfl⟩
 refine ⟨(List.range 64).map (Xql m mid v A B), ?_, ?_⟩
 ·
  unfold Xga
  rw [Ydc h, Xad, Xau, Xaj, Xad, decide_eq_true hm0, Bool.not_true, Xad, Xav, Yg2 h, em, Xad, eA, Xad, eB, Xad, ev, Xad, Yfl (f1 := Xig m mid A B v) (f2 := Xea m mid A B v) (Xql m mid v A B) (fun _ => rfl) ?_ ?_, Xad]
  ·
   intro r c a s hr hc hs
   unfold Xea Xql
   simp only [Int.toNat_natCast, Xgo, Xad]
   rw [syA, wkA (e := (c : Int) + 1), show (8 * r + c) % 8 = c by omega, show (8 * r + c) / 8 = r by omega]
   cases (m == 0) with
   | true => rw [Xau, Xby (by simp only [List.length_singleton]; omega), Xad]; rfl
   | false =>
    rw [Xav]
    cases (m == 1) with
    | true => rw [Xau, rqA, Xby (by simp only [List.length_singleton]; omega), Xad]; rfl
    | false =>
     rw [Xav]
     cases (m == 2) with
     | true => rw [Xau, rqA, Xby (by simp only [List.length_singleton]; omega), Xad]; rfl
     | false => rw [Xav, rqA, rqA, Xby (by simp only [List.length_singleton]; omega), Xad]; rfl
  ·
   intro r a s
   unfold Xea
   rw [Xaz (by simp)]
 ·
  unfold Xd1
  rw [Xlk h, Xad, Xau, Xai, Xad, decide_eq_true hm0, Bool.not_true, Xad, Xav, ev, Xad]
  obtain ⟨o, eo, ho⟩ := Xdy (f := Xce m e v) 64 (fun i s => s = (List.range i).map (Xql m mid v A B)) (by
   intro i s hi hs
   have hlen : s.length = i := by rw [hs]; simp
   refine ⟨s ++ [Xql m mid v A B i], ?_, by rw [hs, List.range_succ, List.map_append]; rfl⟩
   unfold Xce Xql
   simp only
   rw [syA, rqA, Xci (by omega), show (i : Int) % 8 = ((i % 8 : Nat) : Int) by omega, fA _ (by omega), Xad, rqA, Xbk (by omega), wkA (e := (i : Int) / 8), show (i : Int) / 8 = ((i / 8 : Nat) : Int) by omega, fB _ (by omega), Xad, wkA (e := (i : Int) + 1), em]
   cases (m == 0) with
   | true => rw [Xau, Xad, Xby (by simp only [List.length_singleton]; omega), Xad]; rfl
   | false =>
    rw [Xav]
    cases (m == 1) with
    | true => rw [Xau, Xby (by simp only [List.length_singleton]; omega), Xad]; rfl
    | false =>
     rw [Xav]
     cases (m == 2) with
     | true => rw [Xau, Xby (by simp only [List.length_singleton]; omega), Xad]; rfl
     | false => rw [Xav, Xds, Xad, Xby (by simp only [List.length_singleton]; omega), Xad]; rfl) (by intro s; unfold Xce; rw [Xaz (by simp)]) [] rfl
  rw [eo, Xad, ho]
theorem Xza (m : Int) (hm0 : 0 ≤ m ∧ m ≤ 3) {e : Xha} (h : Xrm e) : Xga m e = Xd1 m e := by
 obtain ⟨g, h1, h2⟩ := Ybh m hm0 h
 rw [h1, h2]
theorem Xrj (g b : List Int) (hg : Xi3 g = true) (hl : b.length = 64) (hb : inB 10000000 b) : Xhb g b = Xez g b := by
 obtain ⟨g1, g2⟩ := Xl4 hg
 unfold Xhb Xez
 rw [Xlu g hg, Xup g (by omega), hg, Xtw b 64 10000000 (by omega) (by omega) hb, Xgd b 64 10000000 (by omega) (by omega) (by omega) hb]
 have : Xhu g b = Xdj g b := by
  funext v
  unfold Xhu Xdj
  simp only [Xzm, show ((g.length : Nat) : Int) = 64 by omega]
 simp only [Xad, Xau, Bool.not_true, Xav, this]
theorem Yc5 {s : Xao} (h : Xmr s = true) (h1 : s.Kind = 0) : s.Dx = 0 ∧ s.Dy = 0 := by
 unfold Xmr at h
 rw [h1] at h
 simp at h
 exact ⟨h.2.1, h.2.2.1⟩
theorem Yi0 {s : Xao} (h : Xmr s = true) : (-16 ≤ s.Dx ∧ s.Dx ≤ 16) ∧ (-16 ≤ s.Dy ∧ s.Dy ≤ 16) := by
 have hk := Yc4 h
 obtain h1 | h1 | h1 : s.Kind = 0 ∨ s.Kind = 1 ∨ s.Kind = 2 := by omega
 ·
  obtain ⟨a, b⟩ := Yc5 h h1; omega
 ·
  obtain ⟨a, b, _⟩ := Ye7 h h1; exact ⟨a, b⟩
 ·
  unfold Xmr at h
  rw [h1] at h
  simp at h
  omega
theorem Xut (s : Xao) (c : Xf8) : Xep s c = some (Xil s c) := by
 unfold Xep Xil
 cases c.Key <;> rfl
structure Yjq (now ref : Pic) (l t x y : Int) (c : Xf8) (q : Xao) : Prop where
 ok : Xdn now = true
 hx : x.tmod 8 = 0
 hy : y.tmod 8 = 0
 h0 : Xhz now x y = true
 hl : 0 ≤ l ∧ l ≤ 256
 ht : 0 ≤ t ∧ t ≤ 256
 hc : Xgl c = true
 hs : q.Levels.length ≤ 1048576
theorem Xzd {now ref : Pic} {l t x y : Int} {c : Xf8} {q : Xao} (h : Yjq now ref l t x y c q) (hq : (Xmr q && Xil q c) = false) : Xcd now ref l t c x y q = some ([], false) := by
 unfold Xcd
 rw [Xfa, Xad, h.ok, Xau, Xmc h.ok h.hx h.hy h.h0, Xad, Xau, Xaj, Xad, decide_eq_true h.hl, Xau, Xaj, Xad, decide_eq_true h.ht, Xau, Xeb q (by have := h.hs; omega), Xad, Xcr, Xad, h.hc, Xau, Xut, Xad]
 cases h1 : Xmr q with
 | false => rfl
 | true =>
  rw [h1, Bool.true_and] at hq
  rw [hq]; rfl
theorem Xts {now ref : Pic} {l t x y : Int} {c : Xf8} {q : Xao} (h : Yjq now ref l t x y c q) (hq : Xmr q = true) (hL : Xil q c = true) (hr : c.Key = false → Xdn ref = true) : ∃ d, Xcd now ref l t c x y q = some (d, true) ∧ Xbx now ref l t c x y q = some (d, true) ∧ Xi3 d = true := by
 obtain ⟨ok, hx, hy, h0, hl, ht, hc, hs⟩ := h
 obtain ⟨k1, k2, k3⟩ := Xbl ok
 have h0' := h0
 unfold Xhz at h0'
 rw [decide_eq_true_eq] at h0'
 have dxy := Yi0 hq
 unfold Xbx Xcd
 rw [Xik ok hx hy h0, Xad, Xau, Xai, Xad, decide_eq_true hl, Xau, Xai, Xad, decide_eq_true ht, Xau, Xf0, Xad, hq, Xau, Xdh, Xad, hc, Bool.not_true, Xad, Xav]
 rw [Xfa, Xad, ok, Xau, Xmc ok hx hy h0, Xad, Xau, Xaj, Xad, decide_eq_true hl, Xau, Xaj, Xad, decide_eq_true ht, Xau, Xeb q (by omega), Xad, hq, Xau, Xcr, Xad, hc, Xau, Xut, Xad, hL, Xau]
 by_cases h2 : q.Kind = 2
 ·
  obtain ⟨hm, hlv⟩ := Yi1 hq h2
  obtain ⟨e, ee, he⟩ := Xvw ok hx hy h0
  obtain ⟨b, eb, b1, b2⟩ := Xjq q.Levels c hc hlv
  obtain ⟨g, eg, hg⟩ := Xvz q.Mode hm he
  obtain ⟨j, ej, hj⟩ := Xno g b hg b1 b2
  refine ⟨j, ?_, ?_, hj⟩
  ·
   rw [Xbw (b := q.Kind != 2) (by simpa using h2), Xad, Xav, Xbw (by rw [h2]; rfl), Xlf q.Levels c hc hlv, eb, Xad, Xbw (by rw [h2]; rfl), Xy9 ok hx hy h0, ee, Xad, Xza q.Mode hm he, eg, Xad, Xrj g b hg b1 b2, ej, Xad]
  ·
   rw [Xcp (by simpa using h2), ee, Xad, eb, Xad, eg, Xad, ej, Xad]
 ·
  have hK : c.Key = false := by
   unfold Xil at hL
   cases hk : c.Key with
   | false => rfl
   | true => rw [hk] at hL; simp at hL; exact absurd hL h2
  have rok := hr hK
  rw [Xcp (b := q.Kind != 2) (by simpa using h2), Xfa, Xad, rok, Bool.not_true, Xad, Xav]
  rw [Xbw (b := q.Kind == 2) (by simpa using h2), hK, Xav, Xg3, Xad, rok, Bool.not_true, Xad, Xav]
  rw [wkA (e := l + x), wkA (e := l + x + q.Dx), wkA (e := t + y), wkA (e := t + y + q.Dy), Xvs rok _ _ (by omega) (by omega), Xad, Xpc rok _ _ (by omega) (by omega), Xad, Xpc rok _ _ (by omega) (by omega)]
  by_cases h3 : q.Kind = 0
  ·
   obtain ⟨z1, z2⟩ := Yc5 hq h3
   rw [Xcp (b := q.Kind == 0) (by simpa using h3), Xcp (b := q.Kind == 0) (by simpa using h3), z1, z2, Int.add_zero, Int.add_zero]
   exact ⟨_, rfl, rfl, Xty _ _ _⟩
  ·
   have h1 : q.Kind = 1 := by have := Yc4 hq; omega
   obtain ⟨_, _, hlv⟩ := Ye7 hq h1
   obtain ⟨b, eb, b1, b2⟩ := Xjq q.Levels c hc hlv
   obtain ⟨j, ej, hj⟩ := Xno _ b (Xty ref (l + x + q.Dx) (t + y + q.Dy)) b1 b2
   rw [Xbw (b := q.Kind == 0) (by simpa using h3), Xbw (b := q.Kind == 0) (by simpa using h3), Xlf q.Levels c hc hlv, eb, Xad, Xad, Xcp (b := q.Kind == 1) (by simpa using h1), Xad, Xrj _ b (Xty _ _ _) b1 b2, ej, Xad]
   exact ⟨_, rfl, rfl, hj⟩
theorem Yiu {β : Type} {a b c : Prop} [Decidable a] [Decidable b] [Decidable c] (hb : b) (hc : c) (k : Option β) : req a (req b (req c k)) = req b (req c (req a k)) := by
 rw [Xby hb, Xby hc, Xby hb, Xby hc]
theorem Yid {p : Pic} (ok : Xdn p = true) : p.Dots.size ≤ 65536 := by
 obtain ⟨k1, k2, k3⟩ := Xbl ok
 have := Xee k1 k2
 omega
theorem Yg7 {p : Pic} {x y : Int} {d : List Int} (hd : Xi3 d = true) (hp : p.Dots.size ≤ maxLen) : Xmv p x y d = Xe9 p x y d := by
 obtain ⟨d1, d2⟩ := Xl4 hd
 unfold Xmv Xe9 Xpd
 rw [Xby hp, Xad, Xby hp]
 have : Xk2 p x y d = Xdm p x y d := by
  funext v
  unfold Xk2 Xdm
  simp only [show ((d.length : Nat) : Int) = 64 by omega]
  exact Yd3 (fun _ => Yiu (by omega) (by omega) _) fun _ => rfl
 rw [this]
theorem Yg0 (n : Nat) (x : Int) : ((List.range n).map fun _ => x) = List.replicate n x := by
 apply List.ext_getElem
 ·
  simp
 ·
  intro i h1 h2; simp
theorem Yb6 (w h : Int) (hw : 1 ≤ w ∧ w ≤ 256) (hh : 1 ≤ h ∧ h ≤ 256) : Xl6 w h = some ⟨w, h, strOfNums (List.replicate (w * h).toNat 128)⟩ := by
 have ar := Xee hw hh
 unfold Xl6
 rw [Xaj, Xad, decide_eq_true hw, Xau, Xaj, Xad, decide_eq_true hh, Bool.not_true, Xad, Xav, wkA (e := w * h), rqA]
 rw [Yfr (f := Xh3 w h) (w * h).toNat (fun _ => 128) (List.replicate (w * h).toNat 0) (by simp) ?_ ?_, Xad, Yg0]
 ·
  intro i s hi hs _
  unfold Xh3
  simp only [List.length_replicate, Int.toNat_natCast]
  rw [wkA (e := w * h), syA, rqA, rqA, wkA]
  rfl
 ·
  intro s hs
  unfold Xh3
  simp only [List.length_replicate]
  rw [wkA (e := w * h), snA]
theorem Yc3 (w h : Int) (hw : 1 ≤ w ∧ w ≤ 256) (hh : 1 ≤ h ∧ h ≤ 256) : Xmg w h = some ⟨w, h, strOfNums (List.replicate (w * h).toNat 128)⟩ := by
 have ar := Xee hw hh
 unfold Xmg
 rw [Xai, Xad, decide_eq_true hw, Xau, Xai, Xad, decide_eq_true hh, Bool.not_true, Xad, Xav, wkA (e := w * h), show w * h = (((w * h).toNat : Nat) : Int) by omega, Xwg _ _ (by omega), Xad, Int.toNat_natCast]
def Xim (p : Pic) (r : Rect) : Bool := decide (1 ≤ r.Wide ∧ r.Wide ≤ p.Wide) && (decide (1 ≤ r.High ∧ r.High ≤ p.High) && (decide (0 ≤ r.Left ∧ r.Left ≤ p.Wide - r.Wide) && decide (0 ≤ r.Top ∧ r.Top ≤ p.High - r.High)))
theorem Xpe {p : Pic} (ok : Xdn p = true) (r : Rect) : Xde p r = some (Xim p r) := by
 obtain ⟨k1, k2, k3⟩ := Xbl ok
 unfold Xde Xim
 rw [Xaj, Xaj, Xad, Xad]
 by_cases h1 : 1 ≤ r.Wide ∧ r.Wide ≤ p.Wide
 ·
  rw [decide_eq_true h1, Xau, Bool.true_and]
  by_cases h2 : 1 ≤ r.High ∧ r.High ≤ p.High
  ·
   rw [decide_eq_true h2, Xau, Bool.true_and, wkA (e := p.Wide - r.Wide), wkA (e := p.High - r.High), Xaj, Xaj, Xad, Xad, Xfj, Xad]
  ·
   rw [decide_eq_false h2, Xav, Bool.false_and]; rfl
 ·
  rw [decide_eq_false h1, Xav, Bool.false_and]; rfl
theorem Xko (p : Pic) (r : Rect) : Xbt p r.Left r.Top r.Wide r.High = some (Xdn p && Xim p r) := by
 unfold Xbt Xim
 rw [Xg3, Xad]
 cases ok : Xdn p with
 | false => rfl
 | true =>
  obtain ⟨k1, k2, k3⟩ := Xbl ok
  rw [Xau, Xai, Xai, Xad, Xad]
  by_cases h1 : 1 ≤ r.Wide ∧ r.Wide ≤ p.Wide
  ·
   rw [decide_eq_true h1, Xau, Bool.true_and, Bool.true_and]
   by_cases h2 : 1 ≤ r.High ∧ r.High ≤ p.High
   ·
    rw [decide_eq_true h2, Xau, Bool.true_and, wkA (e := p.Wide - r.Wide), wkA (e := p.High - r.High), Xai, Xai, Xad, Xad, Xfj, Xad]
   ·
    rw [decide_eq_false h2, Xav, Bool.false_and]; rfl
  ·
   rw [decide_eq_false h1, Xav, Bool.false_and]; rfl
theorem Xh0 {p : Pic} {r : Rect} (h : Xim p r = true) : (1 ≤ r.Wide ∧ r.Wide ≤ p.Wide) ∧ (1 ≤ r.High ∧ r.High ≤ p.High) ∧ (0 ≤ r.Left ∧ r.Left ≤ p.Wide - r.Wide) ∧ (0 ≤ r.Top ∧ r.Top ≤ p.High - r.High) := by
 unfold Xim at h
 simp only [Bool.and_eq_true, decide_eq_true_eq] at h
 exact h
def Xjt (p : Pic) (r : Rect) : Nat → List Int
 | 0 => []
 | n + 1 => Xjt p r n ++ Xcs (p.Dots.extract ((r.Top + n) * p.Wide + r.Left).toNat ((r.Top + n) * p.Wide + r.Left + r.Wide).toNat)
theorem Ygj {p : Pic} {r : Rect} (ok : Xdn p = true) (h : Xim p r = true) (n : Nat) (hn : (n : Int) < r.High) : 0 ≤ (r.Top + n) * p.Wide ∧ (r.Top + n) * p.Wide + r.Left + r.Wide ≤ p.Dots.size ∧ (r.Top + n) * p.Wide ≤ 65536 ∧ (Xcs (p.Dots.extract ((r.Top + n) * p.Wide + r.Left).toNat ((r.Top + n) * p.Wide + r.Left + r.Wide).toNat)).length = r.Wide.toNat := by
 obtain ⟨k1, k2, k3⟩ := Xbl ok
 obtain ⟨a1, a2, a3, a4⟩ := Xh0 h
 have ar := Xee k1 k2
 have b1 : 0 ≤ (r.Top + n) * p.Wide := Int.mul_nonneg (by omega) (by omega)
 have b2 : (r.Top + n) * p.Wide ≤ (p.High - 1) * p.Wide := Int.mul_le_mul_of_nonneg_right (by omega) (by omega)
 have b3 : (p.High - 1) * p.Wide = p.Wide * p.High - p.Wide := by rw [Int.sub_mul, Int.one_mul, Int.mul_comm]
 refine ⟨b1, by omega, by omega, ?_⟩
 rw [Xb8, ByteArray.size_extract]
 omega
theorem Xny {p : Pic} {r : Rect} (ok : Xdn p = true) (h : Xim p r = true) : ∀ n : Nat, (n : Int) ≤ r.High → ((Xjt p r n).length : Int) = n * r.Wide
 | 0, _ => by simp [Xjt]
 | n + 1, hn => by
  have a := Xh0 h
  have b := Ygj ok h n (by omega)
  rw [Xjt, List.length_append, Int.natCast_add, Xny ok h n (by omega), b.2.2.2, Int.natCast_add, Int.add_mul]
  simp only [Int.natCast_one, Int.one_mul]
  omega
theorem Yeh {p : Pic} {r : Rect} {f : Int × List Int → Option (Lp (Int × List Int) (List Int))} (ok : Xdn p = true) (h : Xim p r = true) (hf : f = Xff p r) : loop f (r.Top, []) = some (Xjt p r r.High.toNat) := by
 have hm : maxLen = 9223372036854775807 := rfl
 obtain ⟨k1, k2, k3⟩ := Xbl ok
 obtain ⟨a1, a2, a3, a4⟩ := Xh0 h
 subst hf
 have key : ∀ n : Nat, n ≤ r.High.toNat → loop (Xff p r) (r.Top + n, Xjt p r n) = some (Xjt p r r.High.toNat) := by
  refine Xgm _ ?_ ?_
  ·
   refine Xel ?_
   unfold Xff
   rw [wkA (e := r.Top + r.High), Xaz (by simp only; omega)]
  ·
   intro n hn ih
   refine lgo (y := (r.Top + ((n + 1 : Nat) : Int), Xjt p r (n + 1))) ?_ ih
   obtain ⟨b1, b2, b3, b4⟩ := Ygj ok h n (by omega)
   have cl := Xny ok h n (by omega)
   have cw : (n : Int) * r.Wide ≤ 256 * r.Wide := Int.mul_le_mul_of_nonneg_right (by omega) (by omega)
   unfold Xff
   simp only
   rw [wkA (e := r.Top + r.High), syA, wkA (e := (r.Top + n) * p.Wide), wkA (e := (r.Top + n) * p.Wide + r.Left), wkA (e := (r.Top + n) * p.Wide + r.Left + r.Wide), rqA, Xby (by rw [b4]; omega), wkA (e := r.Top + n + 1), show r.Top + ((n + 1 : Nat) : Int) = r.Top + n + 1 by omega]
   rfl
 have := key 0 (by omega)
 simpa [Xjt] using this
def Yk0 (p : Pic) (r : Rect) : Pic := ⟨r.Wide, r.High, strOfNums (Xjt p r r.High.toNat)⟩
theorem Yj1 {p : Pic} {r : Rect} (ok : Xdn p = true) (h : Xim p r = true) : Xdn (Yk0 p r) = true := by
 obtain ⟨k1, k2, k3⟩ := Xbl ok
 obtain ⟨a1, a2, a3, a4⟩ := Xh0 h
 refine Yal (by show 1 ≤ r.Wide ∧ r.Wide ≤ 256; omega) (by show 1 ≤ r.High ∧ r.High ≤ 256; omega) ?_
 show ((strOfNums _).size : Int) = r.Wide * r.High
 rw [strOfNums_size, Xny ok h _ (by omega), Int.mul_comm]
 congr 1; omega
theorem Ya0 {p : Pic} {r : Rect} (ok : Xdn p = true) (h : Xim p r = true) : Xi0 p r = some (Yk0 p r, true) := by
 unfold Xi0
 rw [Xko, ok, h, Xad]
 simp only [Bool.true_and, Bool.not_true, Xav]
 rw [Yeh ok h rfl, Xad]
 rfl
theorem Xzu {p : Pic} {r : Rect} (ok : Xdn p = true) (h : Xim p r = true) : Xix p r = some (Yk0 p r, true) := by
 obtain ⟨k1, k2, k3⟩ := Xbl ok
 obtain ⟨a1, a2, a3, a4⟩ := Xh0 h
 have ar := Xee (w := r.Wide) (h := r.High) (by omega) (by omega)
 unfold Xix
 rw [Xfa, Xad, ok, Xau, Xpe ok, Xad, h, Bool.not_true, Xad, Xav, wkA (e := r.Wide * r.High), rqA]
 have := Yeh (f := Xky p r) ok h rfl
 rw [show List.replicate (0 : Int).toNat (0 : Int) = [] from rfl, this, Xad]
 rfl
def Xjr (l : List Xao) (c : Xf8) : Bool := l.all fun q => Xmr q && Xil q c
theorem Xhw (n : Int) : Xeq n = some (Xme n) := by
 unfold Xeq Xme
 rw [rqA, Xaj, Xad, Xfj, Xad, Xzl]
theorem Ya7 (l : List Xao) (c : Xf8) (hl : l.length ≤ 1048576) : Xkr l c = some (Xgl c && (decide (1 ≤ l.length ∧ l.length ≤ 64) && Xjr l c)) := by
 unfold Xkr
 rw [Xdh, Xad]
 cases hc : Xgl c with
 | false => rfl
 | true =>
  rw [Xau, Xai, Xad, Xad]
  by_cases h64 : 1 ≤ l.length ∧ l.length ≤ 64
  ·
   rw [decide_eq_true (show 1 ≤ (l.length : Int) ∧ (l.length : Int) ≤ 64 by omega), decide_eq_true h64, Bool.not_true, Xav, Bool.true_and, Bool.true_and]
   have key : ∀ (r a : List Xao), l = a ++ r → loop (Xd9 l c) (a.length : Int) = some (if Xjr r c = true then .out () else .ret false) := by
    intro r
    induction r with
    | nil =>
     intro a ha
     rw [List.append_nil] at ha
     exact Xel (by unfold Xd9; rw [Xaz (by rw [ha]; omega)]; rfl)
    | cons s r ih =>
     intro a ha
     have hlen : a.length < l.length := by rw [ha]; simp
     have hx : l.getD a.length Xbc = s := by rw [ha]; exact Yel a s _ r
     have hn := ih (a ++ [s]) (by rw [ha]; simp)
     rw [List.length_append, List.length_singleton] at hn
     have hstep : Xd9 l c (a.length : Int) = sel (!(Xmr s && Xil s c)) (some (.done (.ret false))) (some (.go ((a.length + 1 : Nat) : Int))) := by
      unfold Xd9
      simp only [Int.toNat_natCast, hx]
      rw [syA, rqA, show (⟨s.Kind, s.Mode, s.Dx, s.Dy, s.Levels⟩ : Xao) = s from rfl, Xf0, Xad, rqA, wkA]
      unfold Xil
      cases Xmr s with
      | false => rfl
      | true =>
       cases c.Key with
       | false => rfl
       | true => rw [Xau, Xau, Xad, Bool.true_and, Bool.not_true, Bool.false_or]; rfl
     unfold Xjr at hn ⊢
     rw [List.all_cons]
     cases hq : (Xmr s && Xil s c) with
     | true =>
      rw [hq] at hstep
      rw [Yah (hstep.trans (by rw [Bool.not_true, Xav])), hn, Bool.true_and]
     | false =>
      rw [hq] at hstep
      rw [Xft (hstep.trans (by rw [Bool.not_false, Xau]))]
      simp
   have k0 : loop (Xd9 l c) 0 = some (if Xjr l c = true then .out () else .ret false) := key l [] rfl
   rw [k0, Xad]
   cases Xjr l c <;> rfl
  ·
   rw [decide_eq_false (show ¬ (1 ≤ (l.length : Int) ∧ (l.length : Int) ≤ 64) by omega), decide_eq_false h64]; rfl
theorem Xy8 {w h : Int} (hw : Xme w = true) (hh : Xme h = true) (i : Nat) (hi : (i : Int) < w / 8 * (h / 8)) : (8 ≤ w ∧ w ≤ 64) ∧ (8 ≤ h ∧ h ≤ 64) ∧ 1 ≤ w / 8 ∧ w / 8 ≤ 8 ∧ 1 ≤ h / 8 ∧ h / 8 ≤ 8 ∧ 0 ≤ (i : Int) % (w / 8) * 8 ∧ (i : Int) % (w / 8) * 8 ≤ w - 8 ∧ 0 ≤ (i : Int) / (w / 8) * 8 ∧ (i : Int) / (w / 8) * 8 ≤ h - 8 := by
 unfold Xme at hw hh
 rw [Bool.and_eq_true, decide_eq_true_eq, decide_eq_true_eq] at hw hh
 rw [Xci (by omega)] at hw hh
 have h1 : 1 ≤ w / 8 ∧ w / 8 ≤ 8 := by omega
 have h2 : 1 ≤ h / 8 ∧ h / 8 ≤ 8 := by omega
 have m0 : 0 ≤ (i : Int) % (w / 8) := Int.emod_nonneg _ (by omega)
 have m1 : (i : Int) % (w / 8) < w / 8 := Int.emod_lt_of_pos _ (by omega)
 have d0 : 0 ≤ (i : Int) / (w / 8) := Int.ediv_nonneg (by omega) (by omega)
 have d1 : (i : Int) / (w / 8) < h / 8 := Int.ediv_lt_of_lt_mul (by omega) (by rw [Int.mul_comm]; exact hi)
 exact ⟨hw.2, hh.2, h1.1, h1.2, h2.1, h2.2, by omega, by omega, by omega, by omega⟩
theorem Xhl {w : Int} (hw : Xme w = true) : w % 8 = 0 ∧ 8 ≤ w ∧ w ≤ 64 := by
 unfold Xme at hw
 rw [Bool.and_eq_true, decide_eq_true_eq, decide_eq_true_eq] at hw
 rw [Xci (by omega)] at hw
 exact ⟨hw.1, hw.2⟩
structure Yh7 (ref : Pic) (le tp : Int) (r : Rect) (c : Xf8) (l : List Xao) : Prop where
 hw : Xme r.Wide = true
 hh : Xme r.High = true
 hl : 0 ≤ le ∧ le ≤ 256
 ht : 0 ≤ tp ∧ tp ≤ 256
 hc : Xgl c = true
 hn : (l.length : Int) = r.Wide / 8 * (r.High / 8)
 hs : ∀ q ∈ l, q.Levels.length ≤ 1048576
 hr : c.Key = false → Xdn ref = true
def tbI (r : Rect) (v : Int × Int × ByteArray) : Prop := Xdn ⟨v.1, v.2.1, v.2.2⟩ = true ∧ v.1 = r.Wide ∧ v.2.1 = r.High
theorem Yhs {ref : Pic} {le tp : Int} {r : Rect} {c : Xf8} {l : List Xao} (H : Yh7 ref le tp r c l) (i : Nat) (hi : i < l.length) (s : Int × Int × ByteArray) (hs : tbI r s) :
  ((Xmr (l.getD i Xbc) && Xil (l.getD i Xbc) c) = false → Xa8 r c l (le, tp, ref.Wide, ref.High, ref.Dots) ((i : Int), s) = some (.done (.ret (⟨0, 0, ⟨#[]⟩⟩, false)))) ∧
  ((Xmr (l.getD i Xbc) && Xil (l.getD i Xbc) c) = true → ∃ s', Xa8 r c l (le, tp, ref.Wide, ref.High, ref.Dots) ((i : Int), s) = some (.go (((i + 1 : Nat) : Int), s')) ∧ Xa1 r c l (le, tp, ref.Wide, ref.High, ref.Dots) ((i : Int), s) = some (.go (((i + 1 : Nat) : Int), s')) ∧ tbI r s') := by
 obtain ⟨hw, hh, hl, ht, hc, hn, hls, hr⟩ := H
 obtain ⟨w, h, dt⟩ := s
 obtain ⟨ok, e1, e2⟩ := hs
 simp only at ok e1 e2
 subst e1; subst e2
 obtain ⟨p1, p2, p3, p4, p5, p6, p7, p8, p9, p10⟩ := Xy8 hw hh i (by omega)
 have hmem : l.getD i Xbc ∈ l := by rw [Xcm l i hi]; exact List.getElem_mem _
 have held : Xhz (⟨r.Wide, r.High, dt⟩ : Pic) ((i : Int) % (r.Wide / 8) * 8) ((i : Int) / (r.Wide / 8) * 8) = true := by
  unfold Xhz; rw [decide_eq_true_eq]; exact ⟨p7, p8, p9, p10⟩
 have SD : Yjq (⟨r.Wide, r.High, dt⟩ : Pic) ref le tp ((i : Int) % (r.Wide / 8) * 8) ((i : Int) / (r.Wide / 8) * 8) c (l.getD i Xbc) :=
  ⟨ok, by rw [Xci p7]; omega, by rw [Xci p9]; omega, held, hl, ht, hc, hls _ hmem⟩
 have l64 : l.length ≤ 64 := by
  have : r.Wide / 8 * (r.High / 8) ≤ 8 * 8 := Int.mul_le_mul (by omega) (by omega) (by omega) (by omega)
  omega
 have eI : Xa8 r c l (le, tp, ref.Wide, ref.High, ref.Dots) ((i : Int), r.Wide, r.High, dt) = bnd (Xcd (⟨r.Wide, r.High, dt⟩ : Pic) ref le tp c ((i : Int) % (r.Wide / 8) * 8) ((i : Int) / (r.Wide / 8) * 8) (l.getD i Xbc)) fun q21 => sel (!q21.2) (some (.done (.ret (⟨0, 0, ⟨#[]⟩⟩, false)))) (bnd (Xmv (⟨r.Wide, r.High, dt⟩ : Pic) ((i : Int) % (r.Wide / 8) * 8) ((i : Int) / (r.Wide / 8) * 8) q21.1) fun q22 => some (.go (((i + 1 : Nat) : Int), q22.Wide, q22.High, q22.Dots))) := by
  unfold Xa8
  simp only [Int.toNat_natCast]
  rw [syA, rqA, rqA, Xbk (a := r.Wide) (by omega), wkA (e := r.Wide / 8), rqA, rqA, rqA, Xci (a := (i : Int)) (by omega), Xbk (a := (i : Int)) (by omega), wkA (e := (i : Int) % (r.Wide / 8) * 8), wkA (e := (i : Int) / (r.Wide / 8)), wkA (e := (i : Int) / (r.Wide / 8) * 8), wkA (e := (i : Int) + 1)]
  rfl
 have eS : Xa1 r c l (le, tp, ref.Wide, ref.High, ref.Dots) ((i : Int), r.Wide, r.High, dt) = bnd (Xbx (⟨r.Wide, r.High, dt⟩ : Pic) ref le tp c ((i : Int) % (r.Wide / 8) * 8) ((i : Int) / (r.Wide / 8) * 8) (l.getD i Xbc)) fun q21 => bnd (Xe9 (⟨r.Wide, r.High, dt⟩ : Pic) ((i : Int) % (r.Wide / 8) * 8) ((i : Int) / (r.Wide / 8) * 8) q21.1) fun q22 => some (.go (((i + 1 : Nat) : Int), q22.Wide, q22.High, q22.Dots)) := by
  unfold Xa1
  simp only [Int.toNat_natCast]
  rw [syA, rqA, Xbk (a := r.Wide) (by omega), wkA (e := r.Wide / 8), rqA, rqA, rqA, rqA, Xci (a := (i : Int)) (by omega), Xbk (a := (i : Int)) (by omega), Int.mul_comm 8 ((i : Int) % (r.Wide / 8)), wkA (e := (i : Int) / (r.Wide / 8)), Int.mul_comm 8 ((i : Int) / (r.Wide / 8)), wkA (e := (i : Int) % (r.Wide / 8) * 8), wkA (e := (i : Int) / (r.Wide / 8) * 8), wkA (e := (i : Int) + 1)]
  rfl
 refine ⟨fun hq => ?_, fun hq => ?_⟩
 ·
  rw [eI, Xzd SD hq, Xad]; rfl
 ·
  rw [Bool.and_eq_true] at hq
  obtain ⟨d, d1, d2, d3⟩ := Xts SD hq.1 hq.2 hr
  obtain ⟨p', ep, g1, g2, g3⟩ := Xym ok held d3
  refine ⟨(p'.Wide, p'.High, p'.Dots), ?_, ?_, g1, g2, g3⟩
  ·
   rw [eI, d1, Xad, Bool.not_true, Xav, Yg7 d3 (by have := Yid ok; have hm : maxLen = 9223372036854775807 := rfl; simp only at this ⊢; omega), ep, Xad]
  ·
   rw [eS, d2, Xad, ep, Xad]
theorem Yj4 {r : Rect} (hw : Xme r.Wide = true) (hh : Xme r.High = true) : tbI r (r.Wide, r.High, strOfNums (List.replicate (r.Wide * r.High).toNat 128)) := by
 have a := Xhl hw
 have b := Xhl hh
 have ar := Xee (w := r.Wide) (h := r.High) (by omega) (by omega)
 refine ⟨Yal (by simp only; omega) (by simp only; omega) ?_, rfl, rfl⟩
 simp only
 rw [strOfNums_size, List.length_replicate]; omega
theorem Yi4 {ref : Pic} {le tp : Int} {r : Rect} {c : Xf8} {l : List Xao} (H : Yh7 ref le tp r c l) (s0 : Int × Int × ByteArray) (h0 : tbI r s0) :
  (Xjr l c = false → loop (Xa8 r c l (le, tp, ref.Wide, ref.High, ref.Dots)) (0, s0) = some (.ret (⟨0, 0, ⟨#[]⟩⟩, false))) ∧
  (Xjr l c = true → ∃ s, loop (Xa8 r c l (le, tp, ref.Wide, ref.High, ref.Dots)) (0, s0) = some (.out s) ∧ loop (Xa1 r c l (le, tp, ref.Wide, ref.High, ref.Dots)) (0, s0) = some s ∧ tbI r s) := by
 have key : ∀ i : Nat, i ≤ l.length → ∀ s, tbI r s →
  ((∃ j, i ≤ j ∧ j < l.length ∧ (Xmr (l.getD j Xbc) && Xil (l.getD j Xbc) c) = false) → loop (Xa8 r c l (le, tp, ref.Wide, ref.High, ref.Dots)) ((i : Int), s) = some (.ret (⟨0, 0, ⟨#[]⟩⟩, false))) ∧
  ((∀ j, i ≤ j → j < l.length → (Xmr (l.getD j Xbc) && Xil (l.getD j Xbc) c) = true) → ∃ s', loop (Xa8 r c l (le, tp, ref.Wide, ref.High, ref.Dots)) ((i : Int), s) = some (.out s') ∧ loop (Xa1 r c l (le, tp, ref.Wide, ref.High, ref.Dots)) ((i : Int), s) = some s' ∧ tbI r s') := by
  refine Xgm _ ?_ ?_
  ·
   intro s hs
   refine ⟨fun ⟨j, h1, h2, _⟩ => by omega, fun _ => ⟨s, Xel ?_, Xel ?_, hs⟩⟩
   ·
    unfold Xa8; rw [Xaz (by simp)]
   ·
    unfold Xa1; rw [Xaz (by simp)]
  ·
   intro i hi ih s hs
   obtain ⟨hno, hyes⟩ := Yhs H i hi s hs
   cases hq : (Xmr (l.getD i Xbc) && Xil (l.getD i Xbc) c) with
   | false =>
    refine ⟨fun _ => Xel (hno hq), fun hall => ?_⟩
    have := hall i (Nat.le_refl _) hi
    rw [hq] at this; cases this
   | true =>
    obtain ⟨s', e1, e2, hs'⟩ := hyes hq
    obtain ⟨i1, i2⟩ := ih s' hs'
    refine ⟨fun ⟨j, h1, h2, h3⟩ => lgo e1 (i1 ⟨j, ?_, h2, h3⟩), fun hall => ?_⟩
    ·
     rcases Nat.lt_or_ge i j with h | h
     ·
      exact h
     ·
      have : j = i := by omega
      subst this
      rw [hq] at h3; cases h3
    ·
     obtain ⟨s2, k1, k2, k3⟩ := i2 fun j hj => hall j (by omega)
     exact ⟨s2, lgo e1 k1, lgo e2 k2, k3⟩
 obtain ⟨k1, k2⟩ := key 0 (by omega) s0 h0
 refine ⟨fun hf => k1 ?_, fun ht => k2 fun j _ hj => ?_⟩
 ·
  unfold Xjr at hf
  rw [List.all_eq_false] at hf
  obtain ⟨x, hx, hxf⟩ := hf
  obtain ⟨j, hj, rfl⟩ := List.getElem_of_mem hx
  exact ⟨j, by omega, hj, by rw [Xcm l j hj]; simpa using hxf⟩
 ·
  unfold Xjr at ht
  rw [List.all_eq_true] at ht
  exact ht _ (by rw [Xcm l j hj]; exact List.getElem_mem _)
theorem Yim {now ref ref' : Pic} {l l' t t' x y : Int} {c : Xf8} {q : Xao} (h : Yjq now ref l t x y c q) (h' : Yjq now ref' l' t' x y c q) (hq : Xmr q = true) (hL : Xil q c = true) (hK : c.Key = true) : Xbx now ref l t c x y q = Xbx now ref' l' t' c x y q := by
 have h2 : (q.Kind == 2) = true := by unfold Xil at hL; rw [hK] at hL; simpa using hL
 unfold Xbx
 rw [Xai, Xai, Xai, Xai, decide_eq_true h.hl, decide_eq_true h.ht, decide_eq_true h'.hl, decide_eq_true h'.ht, h2]
 simp only [Xau]
theorem Yin {ref ref' : Pic} {le tp le' tp' : Int} {r : Rect} {c : Xf8} {l : List Xao} (H : Yh7 ref le tp r c l) (H' : Yh7 ref' le' tp' r c l) (hK : c.Key = true) (ha : Xjr l c = true) (s0 : Int × Int × ByteArray) (h0 : tbI r s0) :
  loop (Xa1 r c l (le, tp, ref.Wide, ref.High, ref.Dots)) (0, s0) = loop (Xa1 r c l (le', tp', ref'.Wide, ref'.High, ref'.Dots)) (0, s0) := by
 have hall : ∀ i, i < l.length → (Xmr (l.getD i Xbc) && Xil (l.getD i Xbc) c) = true := fun i hi => by
  unfold Xjr at ha
  rw [List.all_eq_true] at ha
  exact ha _ (by rw [Xcm l i hi]; exact List.getElem_mem _)
 refine Yis l.length (fun _ s => tbI r s) ?_ ?_ h0
 ·
  intro i s hi hs
  rcases Nat.lt_or_ge i l.length with hlt | hge
  ·
   have hq := hall i hlt
   rw [Bool.and_eq_true] at hq
   obtain ⟨w, h, dt⟩ := s
   obtain ⟨ok, e1, e2⟩ := hs
   simp only at ok e1 e2
   subst e1; subst e2
   have hn := H.hn
   obtain ⟨p1, p2, p3, p4, p5, p6, p7, p8, p9, p10⟩ := Xy8 H.hw H.hh i (by omega)
   have hmem : l.getD i Xbc ∈ l := by rw [Xcm l i hlt]; exact List.getElem_mem _
   have held : Xhz (⟨r.Wide, r.High, dt⟩ : Pic) ((i : Int) % (r.Wide / 8) * 8) ((i : Int) / (r.Wide / 8) * 8) = true := by
    unfold Xhz; rw [decide_eq_true_eq]; exact ⟨p7, p8, p9, p10⟩
   have SD : Yjq (⟨r.Wide, r.High, dt⟩ : Pic) ref le tp ((i : Int) % (r.Wide / 8) * 8) ((i : Int) / (r.Wide / 8) * 8) c (l.getD i Xbc) :=
    ⟨ok, by rw [Xci p7]; omega, by rw [Xci p9]; omega, held, H.hl, H.ht, H.hc, H.hs _ hmem⟩
   have SD' : Yjq (⟨r.Wide, r.High, dt⟩ : Pic) ref' le' tp' ((i : Int) % (r.Wide / 8) * 8) ((i : Int) / (r.Wide / 8) * 8) c (l.getD i Xbc) :=
    ⟨ok, by rw [Xci p7]; omega, by rw [Xci p9]; omega, held, H'.hl, H'.ht, H'.hc, H'.hs _ hmem⟩
   have l64 : l.length ≤ 64 := by
    have : r.Wide / 8 * (r.High / 8) ≤ 8 * 8 := Int.mul_le_mul (by omega) (by omega) (by omega) (by omega)
    omega
   unfold Xa1
   simp only [Int.toNat_natCast]
   refine Yd3 (fun _ => Yao fun _ => ?_) fun _ => rfl
   rw [Xbk (a := r.Wide) (by omega), wkA (e := r.Wide / 8), Xci (a := (i : Int)) (by omega), Xbk (a := (i : Int)) (by omega), Int.mul_comm 8 ((i : Int) % (r.Wide / 8)), wkA (e := (i : Int) / (r.Wide / 8)), Int.mul_comm 8 ((i : Int) / (r.Wide / 8)), wkA (e := (i : Int) % (r.Wide / 8) * 8), wkA (e := (i : Int) / (r.Wide / 8) * 8)]
   refine Yao fun _ => Yao fun _ => Yao fun _ => Yao fun _ => Yjy ?_ fun _ _ => rfl
   exact Yim SD SD' hq.1 hq.2 hK
  ·
   unfold Xa1
   rw [Xaz (by simp only; omega), Xaz (by simp only; omega)]
 ·
  intro i s v' hi hs he
  rcases Nat.lt_or_ge i l.length with hlt | hge
  ·
   obtain ⟨s', _, e2, hs'⟩ := (Yhs H' i hlt s hs).2 (hall i hlt)
   rw [e2] at he
   injection he with he
   injection he with he
   subst he
   exact ⟨rfl, by omega, hs'⟩
  ·
   unfold Xa1 at he
   rw [Xaz (by simp only; omega)] at he
   cases he
theorem Xze (ref : Pic) (r : Rect) (c : Xf8) (cf : Bool) (l : List Xao) (hll : l.length ≤ 1048576) (hs : ∀ q ∈ l, q.Levels.length ≤ 1048576) : ∃ x, Xgu ref r c cf l = some x ∧ Xg5 ref r c cf l = some x ∧ (x.2 = true → tbI r (x.1.Wide, x.1.High, x.1.Dots)) := by
 unfold Xgu Xg5
 rw [Xhw, Xad, Xg9, Xad]
 cases hw : Xme r.Wide with
 | false => exact ⟨_, rfl, rfl, fun h => by cases h⟩
 | true =>
  rw [Xau, Xau, Xhw, Xad, Xg9, Xad]
  cases hh : Xme r.High with
  | false => exact ⟨_, rfl, rfl, fun h => by cases h⟩
  | true =>
   rw [Xau, Xau, Xaj, Xad, Xai, Xad]
   by_cases hL : 0 ≤ r.Left ∧ r.Left ≤ 256
   ·
    rw [decide_eq_true hL, Xau, Xau, Xaj, Xad, Xai, Xad]
    by_cases hT : 0 ≤ r.Top ∧ r.Top ≤ 256
    ·
     rw [decide_eq_true hT, Xau, Xau, Xcr, Xad, Ya7 l c hll, Xad]
     cases hc : Xgl c with
     | false => exact ⟨_, rfl, rfl, fun h => by cases h⟩
     | true =>
      have sw := Xhl hw
      have sh := Xhl hh
      have mb : r.Wide / 8 * (r.High / 8) ≤ 8 * 8 := Int.mul_le_mul (by omega) (by omega) (by omega) (by omega)
      have m0 : 1 * 1 ≤ r.Wide / 8 * (r.High / 8) := Int.mul_le_mul (by omega) (by omega) (by omega) (by omega)
      rw [Xau, rqA, rqA, Bool.true_and, Xbk (a := r.Wide) (by omega), Xbk (a := r.High) (by omega), wkA (e := r.Wide / 8), wkA (e := r.High / 8), wkA (e := r.Wide / 8 * (r.High / 8))]
      by_cases hn : (l.length : Int) = r.Wide / 8 * (r.High / 8)
      ·
       have hne : ((l.length : Int) != r.Wide / 8 * (r.High / 8)) = false := by simpa using hn
       rw [decide_eq_true (show 1 ≤ l.length ∧ l.length ≤ 64 by omega), Bool.true_and, hne]
       -- the picture before
       have ha : (sel c.Key (some false) (bnd (Xef ref) fun q8 => sel q8 (bnd (Xde ref r) fun q9 => some (!q9)) (some true))) = some (!c.Key && !(Xdn ref && Xim ref r)) := by
        cases c.Key with
        | true => rfl
        | false =>
         rw [Xav, Xfa, Xad]
         cases hp : Xdn ref with
         | false => rfl
         | true => rw [Xau, Xpe hp, Xad]; rfl
       have hb : (sel c.Key (some false) (bnd (Xbt ref r.Left r.Top r.Wide r.High) fun q8 => some (!q8))) = some (!c.Key && !(Xdn ref && Xim ref r)) := by
        cases c.Key with
        | true => rfl
        | false => rw [Xav, Xko, Xad]; rfl
       have G := Yj4 hw hh
       have gI := Yb6 r.Wide r.High (by omega) (by omega)
       have gS := Yc3 r.Wide r.High (by omega) (by omega)
       rw [ha, hb, gI, gS]
       simp only [Xad, Xav]
       cases hbad : (!c.Key && !(Xdn ref && Xim ref r)) with
       | true => cases Xjr l c <;> exact ⟨_, rfl, rfl, fun h => by cases h⟩
       | false =>
        have hr : c.Key = false → Xdn ref = true ∧ Xim ref r = true := by
         intro hk
         rw [hk] at hbad
         simp only [Bool.not_false, Bool.true_and, Bool.not_eq_false'] at hbad
         rwa [Bool.and_eq_true] at hbad
        have vI : ∃ (rI : Pic) (lI tI : Int), (sel cf (sel (!c.Key) (bnd (Xix ref r) fun q11 => some ((0 : Int), (0 : Int), q11.1.Wide, q11.1.High, q11.1.Dots)) (some (0, 0, ref.Wide, ref.High, ref.Dots))) (some (r.Left, r.Top, ref.Wide, ref.High, ref.Dots))) = some (lI, tI, rI.Wide, rI.High, rI.Dots) ∧ Yh7 rI lI tI r c l ∧
          ∃ (rS : Pic) (lS tS : Int), (bnd (sel c.Key (some false) (some cf)) fun v10 => sel v10 (bnd (Xi0 ref r) fun q11 => some ((0 : Int), (0 : Int), q11.1.Wide, q11.1.High, q11.1.Dots)) (some (r.Left, r.Top, ref.Wide, ref.High, ref.Dots))) = some (lS, tS, rS.Wide, rS.High, rS.Dots) ∧ Yh7 rS lS tS r c l ∧ (c.Key = false → rI = rS ∧ lI = lS ∧ tI = tS) := by
         cases hK : c.Key with
         | true =>
          have TT : ∀ le tp : Int, (0 ≤ le ∧ le ≤ 256) → (0 ≤ tp ∧ tp ≤ 256) → Yh7 ref le tp r c l := fun le tp h1 h2 => ⟨hw, hh, h1, h2, hc, hn, hs, fun h => by rw [hK] at h; cases h⟩
          cases cf with
          | true => exact ⟨ref, 0, 0, rfl, TT 0 0 (by omega) (by omega), ref, r.Left, r.Top, rfl, TT _ _ hL hT, fun h => by cases h⟩
          | false => exact ⟨ref, r.Left, r.Top, rfl, TT _ _ hL hT, ref, r.Left, r.Top, rfl, TT _ _ hL hT, fun h => by cases h⟩
         | false =>
          obtain ⟨hp, ho⟩ := hr hK
          cases cf with
          | true =>
           rw [Xau, Bool.not_false, Xau, Xzu hp ho, Xad, Xav, Xad, Xau, Ya0 hp ho, Xad]
           have TT : Yh7 (Yk0 ref r) 0 0 r c l := ⟨hw, hh, by omega, by omega, hc, hn, hs, fun _ => Yj1 hp ho⟩
           exact ⟨Yk0 ref r, 0, 0, rfl, TT, Yk0 ref r, 0, 0, rfl, TT, fun _ => ⟨rfl, rfl, rfl⟩⟩
          | false =>
           have TT : Yh7 ref r.Left r.Top r c l := ⟨hw, hh, hL, hT, hc, hn, hs, fun _ => hp⟩
           exact ⟨ref, r.Left, r.Top, rfl, TT, ref, r.Left, r.Top, rfl, TT, fun _ => ⟨rfl, rfl, rfl⟩⟩
        obtain ⟨rI, lI, tI, eI, HI, rS, lS, tS, eS, HS, hk⟩ := vI
        rw [Xav, eI, eS]
        simp only [Xad, Xav]
        obtain ⟨n1, n2⟩ := Yi4 HI _ G
        cases hall : Xjr l c with
        | false =>
         rw [n1 hall, Xad]
         exact ⟨_, rfl, rfl, fun h => by cases h⟩
        | true =>
         obtain ⟨s, e1, e2, e3⟩ := n2 hall
         have e4 : loop (Xa1 r c l (lS, tS, rS.Wide, rS.High, rS.Dots)) (0, r.Wide, r.High, strOfNums (List.replicate (r.Wide * r.High).toNat 128)) = some s := by
          cases hK : c.Key with
          | true => rw [Yin HS HI hK hall _ G]; exact e2
          | false =>
           obtain ⟨q1, q2, q3⟩ := hk hK
           subst q1; subst q2; subst q3
           exact e2
         rw [e1, Xad, Xau, Xad, Xav, e4, Xad]
         exact ⟨_, rfl, rfl, fun _ => e3⟩
      ·
       have hne : ((l.length : Int) != r.Wide / 8 * (r.High / 8)) = true := by simpa using hn
       rw [hne, Xad, Xau]
       refine ⟨_, rfl, ?_, fun h => by cases h⟩
       cases (decide (1 ≤ l.length ∧ l.length ≤ 64) && Xjr l c) <;> rfl
    ·
     rw [decide_eq_false hT]; exact ⟨_, rfl, rfl, fun h => by cases h⟩
   ·
    rw [decide_eq_false hL]; exact ⟨_, rfl, rfl, fun h => by cases h⟩
theorem Ydy (s : ByteArray) (k : Nat) (hk : k < s.size) : (Xcs s).getD k 0 = Xtz s k := by
 have := Ygf (Xcs s) (by intro x hx; obtain ⟨b, _, rfl⟩ := List.mem_map.1 hx; have := b.toNat_lt; omega) k (by rw [Xb8]; exact hk)
 rw [Xy7] at this
 exact this.symm
theorem Ylc (a b : List Int) (i : Nat) : (a ++ b).getD (a.length + i) 0 = b.getD i 0 := by
 rw [List.getD_eq_getElem?_getD, List.getD_eq_getElem?_getD, List.getElem?_append_right (by omega)]
 congr 2; omega
theorem Ylb (a b : List Int) (i : Nat) (hi : i < a.length) : (a ++ b).getD i 0 = a.getD i 0 := by
 rw [List.getD_eq_getElem?_getD, List.getD_eq_getElem?_getD, List.getElem?_append_left hi]
theorem Ylj (v x : Int) (h0 : 0 ≤ v) (h1 : v ≤ 1000000000000000000) (hx : x = 0 ∨ x = 1) : IntKind.wrap .i64 (BitVec.ofInt (IntKind.bits .i64) (v * 2) ||| BitVec.ofInt (IntKind.bits .i64) x).toNat = v * 2 + x := by
 obtain ⟨a, rfl⟩ : ∃ a : Nat, v = a := ⟨v.toNat, by omega⟩
 obtain ⟨b, rfl⟩ : ∃ b : Nat, x = b := ⟨x.toNat, by omega⟩
 have h : (BitVec.ofInt 64 ((a : Int) * 2) ||| BitVec.ofInt 64 (b : Int)).toNat = a * 2 + b := by
  rw [BitVec.toNat_or, BitVec.toNat_ofInt, BitVec.toNat_ofInt]
  have e1 : (((a : Int) * 2) % ((2 ^ 64 : Nat) : Int)).toNat = a * 2 := by omega
  have e2 : ((b : Int) % ((2 ^ 64 : Nat) : Int)).toNat = b := by omega
  rw [e1, e2]
  have := Nat.two_pow_add_eq_or_of_lt (i := 1) (b := b) (by omega) a
  rw [show 2 ^ 1 * a = a * 2 by omega] at this
  exact this.symm
 show IntKind.wrap .i64 ((BitVec.ofInt 64 ((a : Int) * 2) ||| BitVec.ofInt 64 (b : Int)).toNat : Int) = _
 rw [h, ← Xqe, wkA]
 omega
theorem Xpp {i : Nat} (h : i ≤ 40) : (2 : Int) ^ i ≤ 1099511627776 := by
 have h2 : (2 : Nat) ^ i ≤ 1099511627776 := Nat.pow_le_pow_right (n := 2) (by omega) h
 have := Int.ofNat_le.2 h2
 rw [Int.natCast_pow] at this
 exact this
theorem Yd2 {L a f b : List Int} (hL : L = a ++ (f ++ b)) (hb : Xys L) (hl : L.length ≤ 400000) (hf : f.length ≤ 41) : Xcn ⟨strOfNums L, (a.length : Int), false⟩ (f.length : Int) = some (Xl0 f, ⟨strOfNums L, ((a.length + f.length : Nat) : Int), false⟩) := by
 have hLl : L.length = a.length + (f.length + b.length) := by rw [hL]; simp only [List.length_append]
 have hfb : Xys f := fun x hx => hb x (by rw [hL]; simp [hx])
 unfold Xcn
 simp only
 rw [Xav, strOfNums_size, wkA, Xad, snA]
 have key : ∀ i : Nat, i ≤ f.length → loop (Xec ⟨strOfNums L, (a.length : Int), false⟩ (f.length : Int)) (Xl0 (f.take i), (i : Int)) = some (Xl0 f) := by
  refine Xgm _ ?_ ?_
  ·
   refine Xel ?_
   unfold Xec
   simp only
   rw [snA, List.take_length]
  ·
   intro i hi ih
   refine lgo ?_ ih
   have hx : L.getD (a.length + i) 0 = f.getD i 0 := by rw [hL, Ylc, Ylb _ _ _ hi]
   have hbt : Xtz (strOfNums L) ((a.length : Int) + i) = f.getD i 0 := by
    rw [show (a.length : Int) + i = ((a.length + i : Nat) : Int) by omega, Ygf L (Ybn hb) _ (by omega), hx]
   have h2 : f.getD i 0 = 48 ∨ f.getD i 0 = 49 := hfb _ (by rw [Xcm f i hi]; exact List.getElem_mem hi)
   have ht : Xys (f.take i) := fun x hx => hfb x (List.mem_of_mem_take hx)
   have hr := Xms ht
   have hp : (2 : Int) ^ (f.take i).length ≤ 1099511627776 := Xpp (by rw [List.length_take]; omega)
   have hv : Xl0 (f.take (i + 1)) = Xl0 (f.take i) * 2 + (f.getD i 0 - 48) := by
    rw [List.take_add_one, Yeb, Xcm f i hi, List.getElem?_eq_getElem hi]
    simp [Xl0]
   unfold Xec
   simp only
   rw [syA, rqA, wkA (e := (a.length : Int) + i), Xby (by rw [strOfNums_size]; omega), hbt, w8 (by omega) (by omega), wkA (e := f.getD i 0 - 48), show (2 : Int) ^ min (1 : Int).toNat (IntKind.bits .i64) = 2 from rfl, wkA (e := Xl0 (f.take i) * 2), Ylj _ _ (by omega) (by omega) (by omega), wkA, hv]
   rfl
 have := key 0 (by omega)
 rw [List.take_zero] at this
 refine (Xfl this).trans ?_
 rw [wkA]
 rfl
def Ymg (t : Nat → Int) : Nat → Int
 | 0 => 0
 | k + 1 => Ymg t k + t k
def eT (f : Nat → Int) (u : Nat) : Int := Ymg (fun k => Xfv (u : Int) (k : Int) * f k) 8
def eS (X : Nat → Nat → Int) (u v : Nat) : Int := eT (fun i => eT (X i) v) u
theorem Yf2 {L : List Int} {i w : Nat} (h : i + w ≤ L.length) : L = L.take i ++ ((L.drop i).take w ++ L.drop (i + w)) ∧ (L.take i).length = i ∧ ((L.drop i).take w).length = w := by
 refine ⟨?_, by rw [List.length_take]; omega, by rw [List.length_take, List.length_drop]; omega⟩
 rw [← List.drop_drop, List.take_append_drop, List.take_append_drop]
theorem Ydm {L : List Int} (hb : Xys L) (hl : L.length ≤ 400000) {i w : Nat} (h : i + w ≤ L.length) (hw : w ≤ 41) : Xcn ⟨strOfNums L, (i : Int), false⟩ (w : Int) = some (Xl0 ((L.drop i).take w), ⟨strOfNums L, ((i + w : Nat) : Int), false⟩) := by
 obtain ⟨h1, h2, h3⟩ := Yf2 h
 have := Yd2 h1 hb hl (by omega)
 rw [h2, h3] at this
 exact this
theorem Xt0 {L : List Int} (hb : Xys L) {i : Nat} (h : i < L.length) : Xtz (strOfNums L) (i : Int) = L.getD i 0 ∧ (L.getD i 0 = 48 ∨ L.getD i 0 = 49) := ⟨Ygf L (Ybn hb) i h, hb _ (by rw [Xcm L i h]; exact List.getElem_mem h)⟩
theorem Xm4 {L : List Int} {i k : Nat} (h : i + k < L.length) : Xl0 ((L.drop i).take (k + 1)) = 2 * Xl0 ((L.drop i).take k) + L.getD (i + k) 0 - 48 := by
 rw [List.take_add_one, Yeb, List.getElem?_eq_getElem (by rw [List.length_drop]; omega), List.getElem_drop, Xcm L _ h]
 simp [Xl0]
 omega
theorem Xwe {L : List Int} (hb : Xys L) (hl : L.length ≤ 400000) {i w : Nat} (hi : i ≤ L.length) (hw : w ≤ 41) : Xic (strOfNums L) (i : Int) (w : Int) = some (if i + w ≤ L.length then (Xl0 ((L.drop i).take w), ((i + w : Nat) : Int), true) else (0, 0, false)) := by
 unfold Xic
 rw [strOfNums_size, wkA (e := (L.length : Int) - i)]
 by_cases h : i + w ≤ L.length
 ·
  rw [snA, if_pos h]
  have key : ∀ k : Nat, k ≤ w → loop (Xe4 (strOfNums L) (i : Int) (w : Int)) (Xl0 ((L.drop i).take k), ((i + k : Nat) : Int)) = some (Xl0 ((L.drop i).take w)) := by
   refine Xgm _ ?_ ?_
   ·
    refine Xel ?_
    unfold Xe4
    simp only
    rw [Xaz (by rw [wkA]; omega)]
   ·
    intro k hk ih
    refine lgo ?_ ih
    obtain ⟨b1, b2⟩ := Xt0 hb (i := i + k) (by omega)
    have hr := Xms (l := (L.drop i).take k) (fun x hx => hb x (List.mem_of_mem_drop (List.mem_of_mem_take hx)))
    have hp : (2 : Int) ^ ((L.drop i).take k).length ≤ 1099511627776 := Xpp (by rw [List.length_take]; omega)
    have hv := Xm4 (L := L) (i := i) (k := k) (by omega)
    unfold Xe4
    simp only
    rw [Xeu (by rw [wkA]; omega), Xby (by rw [strOfNums_size]; omega), b1, wkA (e := 2 * Xl0 ((L.drop i).take k)), wkA (e := L.getD (i + k) 0), wkA (e := 2 * Xl0 ((L.drop i).take k) + L.getD (i + k) 0), wkA (e := 2 * Xl0 ((L.drop i).take k) + L.getD (i + k) 0 - 48), wkA (e := ((i + k : Nat) : Int) + 1), ← hv]
    rfl
  have := key 0 (by omega)
  refine (Xfl this).trans ?_
  rw [wkA]
  rfl
 ·
  rw [syA, if_neg h]
theorem Yfc {L : List Int} (hb : Xys L) : ∀ n i : Nat, i + n = L.length → ∃ z : Nat, i + z ≤ L.length ∧ (∀ k, k < z → L.getD (i + k) 0 = 48) ∧ (i + z < L.length → L.getD (i + z) 0 = 49)
 | 0, i, h => ⟨0, by omega, fun k hk => by omega, fun h2 => by omega⟩
 | n + 1, i, h => by
  rcases (Xt0 hb (i := i) (by omega)).2 with e | e
  ·
   obtain ⟨z, h1, h2, h3⟩ := Yfc hb n (i + 1) (by omega)
   refine ⟨z + 1, by omega, fun k hk => ?_, fun hz => ?_⟩
   ·
    cases k with
    | zero => exact e
    | succ k => have := h2 k (by omega); rwa [show i + 1 + k = i + (k + 1) by omega] at this
   ·
    have := h3 (by omega)
    rwa [show i + 1 + z = i + (z + 1) by omega] at this
  ·
   exact ⟨0, by omega, fun k hk => by omega, fun _ => e⟩
theorem Ydb {L : List Int} {i : Nat} : ∀ z : Nat, i + z ≤ L.length → (∀ k, k < z → L.getD (i + k) 0 = 48) → Xl0 ((L.drop i).take z) = 0
 | 0, _, _ => rfl
 | z + 1, h, hz => by rw [Xm4 (by omega), Ydb z (by omega) (fun k hk => hz k (by omega)), hz z (by omega)]; rfl
theorem Yda {L : List Int} {i z w : Nat} (h : i + z + w ≤ L.length) (hz : ∀ k, k < z → L.getD (i + k) 0 = 48) : Xl0 ((L.drop i).take (z + w)) = Xl0 ((L.drop (i + z)).take w) := by
 induction w with
 | zero => rw [Nat.add_zero, Ydb z (by omega) hz]; rfl
 | succ w ih =>
  rw [← Nat.add_assoc, Xm4 (by omega), Xm4 (by omega), ih (by omega)]
  rw [Nat.add_assoc]
theorem Yhw {L : List Int} (hb : Xys L) {i w : Nat} (h : i + (w + 1) ≤ L.length) (h1 : L.getD i 0 = 49) : (2 : Int) ^ w ≤ Xl0 ((L.drop i).take (w + 1)) := by
 induction w with
 | zero => rw [Xm4 (by omega)]; simp only [Nat.add_zero]; rw [h1, show Xl0 ((L.drop i).take 0) = 0 from rfl]; decide
 | succ w ih =>
  have := ih (by omega)
  have := (Xt0 hb (i := i + (w + 1)) (by omega)).2
  rw [Xm4 (by omega), Int.pow_succ]
  omega
theorem Ycq (z : Nat) (h : z ≤ 21) : 0 ≤ Xaa .u64 (z : Int) ∧ Xaa .i64 (1 * 2 ^ min (Xaa .u64 (z : Int)).toNat (IntKind.bits .i64)) = (2 : Int) ^ z := by
 have all : ∀ q : Fin 22, (0 ≤ Xaa .u64 (q.val : Int) ∧ Xaa .i64 (1 * 2 ^ min (Xaa .u64 (q.val : Int)).toNat (IntKind.bits .i64)) = (2 : Int) ^ q.val) := by decide +kernel
 exact all ⟨z, by omega⟩
theorem Yhu (s : ByteArray) (a : Int) : Xbh ⟨s, a, true⟩ = some (0, ⟨s, a, true⟩) := by
 have h : Xc1 ⟨s, a, true⟩ 0 = some (.done 0) := rfl
 unfold Xbh
 rw [Xft h, Xad]
 rfl
theorem Xwv {L : List Int} (hb : Xys L) (hl : L.length ≤ 400000) (i : Nat) (hi : i ≤ L.length) :
  (∃ v j : Nat, Xbg (strOfNums L) (i : Int) = some ((v : Int), (j : Int), true) ∧ Xbh ⟨strOfNums L, (i : Int), false⟩ = some ((v : Int), ⟨strOfNums L, (j : Int), false⟩) ∧ v ≤ 1000000 ∧ i < j ∧ j ≤ L.length) ∨ (Xbg (strOfNums L) (i : Int) = some (0, 0, false) ∧ ∃ a : Int, Xbh ⟨strOfNums L, (i : Int), false⟩ = some (0, ⟨strOfNums L, a, true⟩)) := by
 obtain ⟨z, h1, h2, h3⟩ := Yfc hb (L.length - i) i (by omega)
 have lI : loop (Xc1 ⟨strOfNums L, (i : Int), false⟩) 0 = some (z : Int) := by
  have key : ∀ k : Nat, k ≤ z → loop (Xc1 ⟨strOfNums L, (i : Int), false⟩) (k : Int) = some (z : Int) := by
   refine Xgm _ ?_ ?_
   ·
    refine Xel ?_
    unfold Xc1
    simp only
    rw [Xav, wkA (e := (i : Int) + (z : Int)), strOfNums_size]
    by_cases hlt : i + z < L.length
    ·
     rw [syA, rqA, show (i : Int) + (z : Int) = ((i + z : Nat) : Int) by omega, (Xt0 hb hlt).1, h3 hlt, Xad]; rfl
    ·
     rw [snA, Xad, Xav]
   ·
    intro k hk ih
    refine lgo ?_ ih
    unfold Xc1
    simp only
    rw [Xav, wkA (e := (i : Int) + (k : Int)), strOfNums_size, syA, rqA, show (i : Int) + (k : Int) = ((i + k : Nat) : Int) by omega, (Xt0 hb (by omega)).1, h2 k hk, Xad, wkA]
    rfl
  exact key 0 (by omega)
 have lS : ∀ m : Nat, m = min z 21 → loop (Xcy (strOfNums L) (i : Int)) 0 = some (m : Int) := by
  intro m hm
  have key : ∀ k : Nat, k ≤ m → loop (Xcy (strOfNums L) (i : Int)) (k : Int) = some (m : Int) := by
   refine Xgm _ ?_ ?_
   ·
    refine Xel ?_
    unfold Xcy
    rw [wkA (e := (i : Int) + (m : Int)), strOfNums_size]
    by_cases hlt : i + m < L.length
    ·
     rw [syA, rqA, show (i : Int) + (m : Int) = ((i + m : Nat) : Int) by omega, (Xt0 hb hlt).1]
     by_cases hz : z ≤ 21
     ·
      have : m = z := by omega
      subst this
      rw [h3 hlt, Xbw (by rfl), Xad, Xav]
     ·
      have : m = 21 := by omega
      subst this
      rw [h2 21 (by omega), Xcp (by rfl), decide_eq_false (by omega), Xad, Xav]
    ·
     rw [snA, Xad, Xav]
   ·
    intro k hk ih
    refine lgo ?_ ih
    unfold Xcy
    rw [wkA (e := (i : Int) + (k : Int)), strOfNums_size, syA, rqA, show (i : Int) + (k : Int) = ((i + k : Nat) : Int) by omega, (Xt0 hb (by omega)).1, h2 k (by omega), Xcp (by rfl), decide_eq_true (by omega), Xad, Xau, wkA]
    rfl
  exact key 0 (by omega)
 unfold Xbg Xbh
 rw [lI, Xad, lS _ rfl, Xad]
 simp only
 by_cases hz : z ≤ 20
 ·
  rw [show min z 21 = z by omega, snA, Xad, wkA (e := 2 * (z : Int)), wkA (e := 2 * (z : Int) + 1), wkA (e := (i : Int) + (z : Int)), wkA (e := (z : Int) + 1), show (i : Int) + (z : Int) = ((i + z : Nat) : Int) by omega, show (z : Int) + 1 = ((z + 1 : Nat) : Int) by omega, show 2 * (z : Int) + 1 = ((z + (z + 1) : Nat) : Int) by omega, Xwe hb hl h1 (by omega), Xad]
  obtain ⟨p1, p2⟩ := Ycq z (by omega)
  by_cases hfit : i + z + (z + 1) ≤ L.length
  ·
   rw [if_pos hfit, Ydm hb hl (by omega) (by omega), Xad, Yda (by omega) h2]
   simp only
   have hge := Yhw hb (i := i + z) (w := z) (by omega) (h3 (by omega))
   have hpp : (1 : Int) ≤ 2 ^ z := Int.pow_pos (by omega)
   have hr := Xms (l := (L.drop (i + z)).take (z + 1)) (fun x hx => hb x (List.mem_of_mem_drop (List.mem_of_mem_take hx)))
   have hp : (2 : Int) ^ ((L.drop (i + z)).take (z + 1)).length ≤ 1099511627776 := Xpp (by rw [List.length_take]; omega)
   generalize hq : Xl0 ((L.drop (i + z)).take (z + 1)) = q at *
   rw [Xau, Xby p1, p2, snA, wkA (e := q - 1), Xad, Xav, Xad]
   by_cases hbig : q - 1 > 1000000
   ·
    rw [Xeu hbig, Xeu hbig]
    exact .inr ⟨rfl, _, rfl⟩
   ·
    rw [Xaz hbig, Xaz hbig]
    exact .inl ⟨(q - 1).toNat, i + z + (z + 1), by rw [show (((q - 1).toNat : Nat) : Int) = q - 1 by omega], by rw [show (((q - 1).toNat : Nat) : Int) = q - 1 by omega, show i + (z + (z + 1)) = i + z + (z + 1) by omega], by omega, by omega, by omega⟩
  ·
   rw [if_neg hfit]
   simp only
   rw [Xav, Xad, Xau]
   refine .inr ⟨rfl, (i : Int), ?_⟩
   have : Xcn ⟨strOfNums L, (i : Int), false⟩ ((z + (z + 1) : Nat) : Int) = some (0, ⟨strOfNums L, (i : Int), true⟩) := by
    unfold Xcn
    simp only
    rw [Xav, strOfNums_size, wkA, Xad, syA]
   rw [this, Xad]
   rfl
 ·
  have hm : min z 21 = 21 := by omega
  rw [hm, syA, Xad]
  refine .inr ⟨?_, (i : Int), ?_⟩
  ·
   rw [wkA (e := (i : Int) + ((21 : Nat) : Int)), wkA (e := ((21 : Nat) : Int) + 1), show (i : Int) + ((21 : Nat) : Int) = ((i + 21 : Nat) : Int) by omega, show ((21 : Nat) : Int) + 1 = ((22 : Nat) : Int) by omega, Xwe hb hl (by omega) (by omega), Xad]
   obtain ⟨p1, p2⟩ := Ycq 21 (by omega)
   by_cases hfit : i + 21 + 22 ≤ L.length
   ·
    rw [if_pos hfit]
    simp only
    rw [Xau, Xby p1, p2]
    by_cases h21 : z = 21
    ·
     subst h21
     have hge : (2 : Int) ^ 21 ≤ Xl0 ((L.drop (i + 21)).take 22) := Yhw hb (i := i + 21) (w := 21) (by omega) (h3 (by omega))
     have hr := Xms (l := (L.drop (i + 21)).take 22) (fun x hx => hb x (List.mem_of_mem_drop (List.mem_of_mem_take hx)))
     have hp : (2 : Int) ^ ((L.drop (i + 21)).take 22).length ≤ 1099511627776 := Xpp (by rw [List.length_take]; omega)
     have e21 : (2 : Int) ^ 21 = 2097152 := by decide
     rw [e21] at hge ⊢
     rw [snA, wkA, decide_eq_true (by omega), Xad, Xau]
    ·
     have hlt : Xl0 ((L.drop (i + 21)).take 22) < 2 ^ 21 := by
      have a := Yda (L := L) (i := i + 21) (z := 1) (w := 21) (by omega) (fun k hk => by
       have : k = 0 := by omega
       subst this
       exact h2 21 (by omega))
      rw [show (1 + 21 : Nat) = 22 from rfl] at a
      have hr := Xms (l := (L.drop (i + 21 + 1)).take 21) (fun x hx => hb x (List.mem_of_mem_drop (List.mem_of_mem_take hx)))
      rw [a]
      have : ((L.drop (i + 21 + 1)).take 21).length = 21 := by rw [List.length_take, List.length_drop]; omega
      rw [this] at hr
      exact hr.2
     rw [Xeu hlt, Xad, Xau]
   ·
    rw [if_neg hfit]
    simp only
    rw [Xav, Xad, Xau]
  ·
   have : ∀ w : Int, Xcn ⟨strOfNums L, (i : Int), true⟩ w = some (0, ⟨strOfNums L, (i : Int), true⟩) := fun w => rfl
   rw [this, Xad]
   rfl
theorem Yg5 (v : Nat) (hv : v ≤ 1000000) : ∃ n : Int, Xi4 (v : Int) = some (n, true) ∧ Xjc (v : Int) = some (n, true) ∧ -500000 ≤ n ∧ n ≤ 500000 := by
 unfold Xi4 Xjc
 rw [Xaj, Xad, Xai, Xad, decide_eq_true (by omega), Bool.not_true, Xav, Xav, rqA, rqA, Xci (by omega)]
 by_cases h : (v : Int) % 2 = 1
 ·
  rw [Xcp (by rw [beq_iff_eq]; exact h), Xcp (by rw [beq_iff_eq]; exact h), rqA, wkA (e := (v : Int) + 1), Xbk (by omega), wkA]
  exact ⟨_, rfl, rfl, by omega, by omega⟩
 ·
  rw [Xbw (by rw [beq_eq_false_iff_ne]; exact h), Xbw (by rw [beq_eq_false_iff_ne]; exact h), rqA, rqA, wkA (e := 0 - (v : Int))]
  have e1 : (0 - (v : Int)).tdiv 2 = -((v : Int) / 2) := by
   rw [show (0 - (v : Int)) = (-((v : Int) / 2)) * 2 by omega]
   exact Int.mul_tdiv_cancel _ (by omega)
  rw [e1, Xbk (a := (v : Int)) (by omega), wkA (e := (v : Int) / 2), wkA (e := 0 - (v : Int) / 2), wkA (e := -((v : Int) / 2)), show 0 - (v : Int) / 2 = -((v : Int) / 2) by omega]
  exact ⟨_, rfl, rfl, by omega, by omega⟩
theorem Yjo (s : ByteArray) (a : Int) : Xbn ⟨s, a, true⟩ = some (0, ⟨s, a, true⟩) := by
 unfold Xbn
 rw [Yhu, Xad]
 rfl
theorem Yau {L : List Int} (hb : Xys L) (hl : L.length ≤ 400000) (i : Nat) (hi : i ≤ L.length) :
  (∃ (n : Int) (j : Nat), Xbi (strOfNums L) (i : Int) = some (n, (j : Int), true) ∧ Xbn ⟨strOfNums L, (i : Int), false⟩ = some (n, ⟨strOfNums L, (j : Int), false⟩) ∧ (-500000 ≤ n ∧ n ≤ 500000) ∧ i < j ∧ j ≤ L.length) ∨ (Xbi (strOfNums L) (i : Int) = some (0, 0, false) ∧ ∃ a : Int, Xbn ⟨strOfNums L, (i : Int), false⟩ = some (0, ⟨strOfNums L, a, true⟩)) := by
 unfold Xbi Xbn
 rcases Xwv hb hl i hi with ⟨v, j, e1, e2, h1, h2, h3⟩ | ⟨e1, a, e2⟩
 ·
  obtain ⟨n, o1, o2, o3, o4⟩ := Yg5 v h1
  refine .inl ⟨n, j, ?_, ?_, ⟨o3, o4⟩, h2, h3⟩
  ·
   rw [e1, Xad]
   simp only
   rw [Bool.not_true, Xav, o2, Xad]
  ·
   rw [e2, Xad]
   simp only
   rw [o1, Xad]
   rfl
 ·
  refine .inr ⟨?_, a, ?_⟩
  ·
   rw [e1, Xad]; rfl
  ·
   rw [e2, Xad]; rfl
def Yf5 (L : List Int) (N n pos : Nat) : Prop := pos ≤ N → N ≤ pos + n → ∀ (i : Nat) (l : List Int) (rem : Nat), i ≤ L.length → l.length = N → rem ≤ 1000000 →
  (∃ (j : Nat) (l' : List Int), (∀ (k : Nat) (q1 : Int × Int × Bool), q1.1 = ((k + rem : Nat) : Int) → k + rem ≤ 1000000 → loop (Xbj (strOfNums L) (N : Int) q1) ((i : Int), (pos : Int), (k : Int), l) = some (.out ((j : Int), l'))) ∧ loop (Xa4 (N : Int)) ((pos : Int), (rem : Int), strOfNums L, (i : Int), false, l) = some (l', strOfNums L, (j : Int), false) ∧ l'.length = N ∧ j ≤ L.length ∧ rem ≤ N - pos) ∨
  ((∀ (k : Nat) (q1 : Int × Int × Bool), q1.1 = ((k + rem : Nat) : Int) → k + rem ≤ 1000000 → loop (Xbj (strOfNums L) (N : Int) q1) ((i : Int), (pos : Int), (k : Int), l) = some (.ret ([], 0, false))) ∧ ∃ (l' : List Int) (a : Int), loop (Xa4 (N : Int)) ((pos : Int), (rem : Int), strOfNums L, (i : Int), false, l) = some (l', strOfNums L, a, true) ∧ l'.length = N)
theorem Ycx {L : List Int} (hb : Xys L) (hl : L.length ≤ 400000) (N : Nat) (hN : N ≤ 64) (n : Nat) (ih : ∀ n', n' + 1 = n → ∀ pos, Yf5 L N n' pos) (pos : Nat) : Yf5 L N n pos := by
 intro hp hn i l rem hi hll hrem
 cases rem with
 | zero =>
  refine .inl ⟨i, l, fun k q1 hq hk => Xel ?_, Xel ?_, hll, hi, by omega⟩
  ·
   unfold Xbj
   simp only
   rw [snA]
  ·
   unfold Xa4
   simp only
   rw [snA, Xad, Xav]
 | succ r =>
  have sI : Xa4 (N : Int) ((pos : Int), ((r + 1 : Nat) : Int), strOfNums L, (i : Int), false, l) = bnd (Xbh ⟨strOfNums L, (i : Int), false⟩) fun q17 => bnd (Xbn q17.2) fun q18 => bnd (sel (decide ((Xaa .i64 ((pos : Int) + q17.1)) ≥ (N : Int))) (some true) (sel (q18.1 == 0) (some true) (bnd (Xan q18.1 (-5000) 5000) fun q20 => some (!q20)))) fun v19 => sel v19 (some (.done (l, q18.2.row_, q18.2.at_, true))) (req (0 ≤ (Xaa .i64 ((pos : Int) + q17.1)) ∧ (Xaa .i64 ((pos : Int) + q17.1)) < l.length) <| req ((Xaa .i64 ((pos : Int) + q17.1)).toNat < l.length) <| some (.go (Xaa .i64 ((Xaa .i64 ((pos : Int) + q17.1)) + 1), Xaa .i64 (((r + 1 : Nat) : Int) - 1), q18.2.row_, q18.2.at_, q18.2.bad_, (l.set ((Xaa .i64 ((pos : Int) + q17.1)).toNat) q18.1)))) := by
   unfold Xa4
   simp only
   rw [syA, Bool.not_false, Xad, Xau]
  have sS : ∀ (k : Nat) (q1 : Int × Int × Bool), q1.1 = ((k + (r + 1) : Nat) : Int) → Xbj (strOfNums L) (N : Int) q1 ((i : Int), (pos : Int), (k : Int), l) = bnd (Xbg (strOfNums L) (i : Int)) fun q17 => bnd (sel q17.2.2 (some (decide (q17.1 > (Xaa .i64 ((Xaa .i64 ((N : Int) - 1)) - (pos : Int)))))) (some true)) fun v18 => sel v18 (some (.done (.ret (([] : List Int), 0, false)))) (bnd (Xbi (strOfNums L) q17.2.1) fun q19 => bnd (sel q19.2.2 (sel (q19.1 == 0) (some true) (bnd (Xar q19.1 (-5000) 5000) fun q21 => some (!q21))) (some true)) fun v20 => sel v20 (some (.done (.ret (([] : List Int), 0, false)))) (req (0 ≤ (Xaa .i64 ((pos : Int) + q17.1)) ∧ (Xaa .i64 ((pos : Int) + q17.1)) < l.length) <| req ((Xaa .i64 ((pos : Int) + q17.1)).toNat < l.length) <| some (.go (q19.2.1, Xaa .i64 ((Xaa .i64 ((pos : Int) + q17.1)) + 1), Xaa .i64 ((k : Int) + 1), (l.set ((Xaa .i64 ((pos : Int) + q17.1)).toNat) q19.1))))) := fun k q1 hq => by
   unfold Xbj
   simp only
   rw [syA]
  rcases Xwv hb hl i hi with ⟨v, j, e1, e2, h1, h2, h3⟩ | ⟨e1, a, e2⟩
  ·
   rw [e2, Xad] at sI
   simp only at sI
   have sS' := fun k q1 hq => (sS k q1 hq).trans (by rw [e1, Xad])
   simp only at sS'
   by_cases hge : pos + v ≥ N
   ·
    refine .inr ⟨fun k q1 hq hk => Xel ((sS' k q1 hq).trans ?_), ?_⟩
    ·
     rw [Xau, wkA (e := (N : Int) - 1), wkA (e := (N : Int) - 1 - pos), decide_eq_true (by omega), Xad, Xau]
    ·
     rcases Yau hb hl j h3 with ⟨m, j2, _, f2, _⟩ | ⟨_, a, f2⟩
     ·
      refine ⟨l, (j2 : Int), Xel (sI.trans ?_), hll⟩
      rw [f2, Xad, wkA (e := (pos : Int) + v), syA, Xad, Xau]
     ·
      refine ⟨l, a, Xel (sI.trans ?_), hll⟩
      rw [f2, Xad, wkA (e := (pos : Int) + v), syA, Xad, Xau]
   ·
    have sS2 := fun k q1 hq => (sS' k q1 hq).trans (by rw [Xau, wkA (e := (N : Int) - 1), wkA (e := (N : Int) - 1 - pos), decide_eq_false (by omega), Xad, Xav])
    rw [wkA (e := (pos : Int) + v)] at sI
    rcases Yau hb hl j h3 with ⟨m, j2, f1, f2, f3, f4, f5⟩ | ⟨f1, a, f2⟩
    ·
     rw [f2, Xad, snA] at sI
     have sS3 := fun k q1 hq => (sS2 k q1 hq).trans (by rw [f1, Xad])
     simp only at sS3 sI
     by_cases hm : m = 0 ∨ ¬ (-5000 ≤ m ∧ m ≤ 5000)
     ·
      have hv : (sel (m == 0) (some true) (bnd (Xan m (-5000) 5000) fun q20 => some (!q20))) = some true ∧ (sel true (sel (m == 0) (some true) (bnd (Xar m (-5000) 5000) fun q20 => some (!q20))) (some true)) = some true := by
       rw [Xau, Xaj, Xai, Xad]
       rcases hm with h0 | h0
       ·
        rw [Xcp (by rw [beq_iff_eq]; exact h0)]; exact ⟨rfl, rfl⟩
       ·
        rw [decide_eq_false h0]
        cases (m == 0) <;> exact ⟨rfl, rfl⟩
      refine .inr ⟨fun k q1 hq hk => Xel ((sS3 k q1 hq).trans ?_), l, (j2 : Int), Xel (sI.trans ?_), hll⟩
      ·
       rw [hv.2, Xad, Xau]
      ·
       rw [hv.1, Xad, Xau]
     ·
      have hm0 : m ≠ 0 := fun h => hm (.inl h)
      have hm1 : -5000 ≤ m ∧ m ≤ 5000 := Classical.byContradiction fun h => hm (.inr h)
      have hv : (sel (m == 0) (some true) (bnd (Xan m (-5000) 5000) fun q20 => some (!q20))) = some false ∧ (sel true (sel (m == 0) (some true) (bnd (Xar m (-5000) 5000) fun q20 => some (!q20))) (some true)) = some false := by
       rw [Xau, Xaj, Xai, Xad, Xbw (by rw [beq_eq_false_iff_ne]; exact hm0), decide_eq_true hm1]
       exact ⟨rfl, rfl⟩
      have gI : Xa4 (N : Int) ((pos : Int), ((r + 1 : Nat) : Int), strOfNums L, (i : Int), false, l) = some (.go (((pos + v + 1 : Nat) : Int), (r : Int), strOfNums L, (j2 : Int), false, l.set (pos + v) m)) := by
       rw [sI, hv.1, Xad, Xav, rqA, rqA, wkA, wkA, show ((r + 1 : Nat) : Int) - 1 = (r : Int) by omega, show ((pos : Int) + (v : Int)).toNat = pos + v by omega]
       rfl
      have gS : ∀ (k : Nat) (q1 : Int × Int × Bool), q1.1 = ((k + (r + 1) : Nat) : Int) → k + (r + 1) ≤ 1000000 → Xbj (strOfNums L) (N : Int) q1 ((i : Int), (pos : Int), (k : Int), l) = some (.go ((j2 : Int), ((pos + v + 1 : Nat) : Int), ((k + 1 : Nat) : Int), l.set (pos + v) m)) := fun k q1 hq hk => by
       refine (sS3 k q1 hq).trans ?_
       rw [hv.2, Xad, Xav, wkA (e := (pos : Int) + v), rqA, rqA, wkA, wkA, show ((pos : Int) + (v : Int)).toNat = pos + v by omega]
       rfl
      have hR := ih (n - 1) (by omega) (pos + v + 1) (by omega) (by omega) j2 (l.set (pos + v) m) r f5 (by rw [List.length_set]; exact hll) (by omega)
      rcases hR with ⟨j3, l', r1, r2, r3, r4, r5⟩ | ⟨r1, l', a, r2, r3⟩
      ·
       exact .inl ⟨j3, l', fun k q1 hq hk => lgo (gS k q1 hq hk) (r1 (k + 1) q1 (by rw [hq]; omega) (by omega)), lgo gI r2, r3, r4, by omega⟩
      ·
       exact .inr ⟨fun k q1 hq hk => lgo (gS k q1 hq hk) (r1 (k + 1) q1 (by rw [hq]; omega) (by omega)), l', a, lgo gI r2, r3⟩
    ·
     refine .inr ⟨fun k q1 hq hk => Xel ((sS2 k q1 hq).trans ?_), l, a, Xel (sI.trans ?_), hll⟩
     ·
      rw [f1, Xad]; rfl
     ·
      rw [f2, Xad, snA]; rfl
  ·
   refine .inr ⟨fun k q1 hq hk => Xel ((sS k q1 hq).trans ?_), l, a, Xel (sI.trans ?_), hll⟩
   ·
    rw [e1, Xad]; rfl
   ·
    rw [e2, Xad]
    simp only
    rw [Yjo, Xad]
    simp only
    cases decide ((Xaa .i64 ((pos : Int) + 0)) ≥ (N : Int)) <;> rfl
theorem Yke {L : List Int} (hb : Xys L) (hl : L.length ≤ 400000) (N : Nat) (hN : N ≤ 64) : ∀ n pos : Nat, Yf5 L N n pos := by
 intro n
 induction n with
 | zero => exact fun pos => Ycx hb hl N hN 0 (fun n' h => by omega) pos
 | succ n ih => exact fun pos => Ycx hb hl N hN (n + 1) (fun n' h pos => by
   have : n' = n := by omega
   subst this
   exact ih pos) pos
theorem Ye6 (s : ByteArray) (a : Int) (N : Nat) (hN : N ≤ 64) : Xb7 ⟨s, a, true⟩ (N : Int) = some (List.replicate N 0, ⟨s, a, true⟩) := by
 unfold Xb7
 rw [rqA, Yhu, Xad]
 have h : ∀ l, Xa4 (N : Int) (0, 0, s, a, true, l) = some (.done (l, s, a, true)) := fun l => rfl
 simp only
 rw [Xft (h _), Xad, Int.toNat_natCast]
theorem Ycu {L : List Int} (hb : Xys L) (hl : L.length ≤ 400000) (N : Nat) (hN : N ≤ 64) (i : Nat) (hi : i ≤ L.length) :
  (∃ (l : List Int) (j : Nat), Xe6 (strOfNums L) (i : Int) (N : Int) = some (l, (j : Int), true) ∧ Xb7 ⟨strOfNums L, (i : Int), false⟩ (N : Int) = some (l, ⟨strOfNums L, (j : Int), false⟩) ∧ l.length = N ∧ j ≤ L.length) ∨ (Xe6 (strOfNums L) (i : Int) (N : Int) = some ([], 0, false) ∧ ∃ (l : List Int) (a : Int), Xb7 ⟨strOfNums L, (i : Int), false⟩ (N : Int) = some (l, ⟨strOfNums L, a, true⟩) ∧ l.length = N) := by
 unfold Xe6 Xb7
 rw [rqA, rqA]
 rcases Xwv hb hl i hi with ⟨v, j, e1, e2, h1, h2, h3⟩ | ⟨e1, a, e2⟩
 ·
  rw [e1, Xad, e2, Xad]
  simp only
  rw [Xau, Xad, Int.toNat_natCast]
  rcases Yke hb hl N hN N 0 (by omega) (by omega) j (List.replicate N 0) v h3 (by simp) h1 with ⟨j3, l', r1, r2, r3, r4, r5⟩ | ⟨r1, l', a, r2, r3⟩
  ·
   have r1' := r1 0 ((v : Int), (j : Int), true) (by simp) (by omega)
   have r2' : loop (Xa4 (N : Int)) (0, (v : Int), strOfNums L, (j : Int), false, List.replicate N 0) = some (l', strOfNums L, (j3 : Int), false) := r2
   have r3' : loop (Xbj (strOfNums L) (N : Int) ((v : Int), (j : Int), true)) ((j : Int), 0, 0, List.replicate N 0) = some (.out ((j3 : Int), l')) := r1'
   rw [snA, r2', r3', Xad, Xad]
   exact .inl ⟨l', j3, rfl, rfl, r3, r4⟩
  ·
   have r2' : loop (Xa4 (N : Int)) (0, (v : Int), strOfNums L, (j : Int), false, List.replicate N 0) = some (l', strOfNums L, a, true) := r2
   refine .inr ⟨?_, l', a, ?_, r3⟩
   ·
    by_cases hbig : (v : Int) > N
    ·
     rw [Xeu hbig]
    ·
     have r3' : loop (Xbj (strOfNums L) (N : Int) ((v : Int), (j : Int), true)) ((j : Int), 0, 0, List.replicate N 0) = some (.ret ([], 0, false)) := r1 0 ((v : Int), (j : Int), true) (by simp) (by omega)
     rw [Xaz hbig, r3', Xad]
   ·
    rw [r2', Xad]
 ·
  refine .inr ⟨?_, List.replicate N 0, a, ?_, by simp⟩
  ·
   rw [e1, Xad]; rfl
  ·
   rw [e2, Xad]
   have h : ∀ l, Xa4 (N : Int) (0, 0, strOfNums L, a, true, l) = some (.done (l, strOfNums L, a, true)) := fun l => rfl
   simp only
   rw [Xft (h _), Xad, Int.toNat_natCast]
theorem Yds (s : ByteArray) (a : Int) : ∀ n k : Nat, k + n = 4 → ∀ l : List Int, l.length = 16 * k → ∃ l' : List Int, loop Xa2 ((k : Int), s, a, true, l) = some (l', s, a, true) ∧ l'.length = 64
 | 0, k, hk, l, hl => ⟨l, Xel (by unfold Xa2; simp only; rw [snA]), by omega⟩
 | n + 1, k, hk, l, hl => by
  have hm : maxLen = 9223372036854775807 := rfl
  obtain ⟨l', e, h⟩ := Yds s a n (k + 1) (by omega) (l ++ List.replicate 16 0) (by rw [List.length_append, List.length_replicate]; omega)
  refine ⟨l', lgo ?_ e, h⟩
  have := Ye6 s a 16 (by omega)
  unfold Xa2
  simp only
  rw [syA]
  refine (Xfl this).trans ?_
  simp only
  rw [Xby (by simp only [List.length_replicate]; omega), wkA]
  rfl
theorem Xq1 (s : ByteArray) (a : Int) (c : Xf8) : ∃ l : List Int, Xa9 ⟨s, a, true⟩ c = some (l, ⟨s, a, true⟩) ∧ l.length = 64 := by
 unfold Xa9
 rw [Yhi, Xad]
 by_cases h : (c.Large || c.Exact) = true
 ·
  rw [Xcp h]
  have := Ye6 s a 64 (by omega)
  exact ⟨_, (Xfl this).trans rfl, by simp⟩
 ·
  rw [Xbw (by simpa using h)]
  obtain ⟨l', e, hl⟩ := Yds s a 4 0 rfl [] rfl
  exact ⟨l', (Xfl e).trans rfl, hl⟩
theorem Yet {L : List Int} (hb : Xys L) (hl : L.length ≤ 400000) : ∀ n k : Nat, k + n = 4 → ∀ (i : Nat) (l : List Int), i ≤ L.length → l.length = 16 * k →
  (∃ (l' : List Int) (j : Nat), loop (Xch (strOfNums L)) ((i : Int), (k : Int), l) = some (.out ((j : Int), l')) ∧ loop Xa2 ((k : Int), strOfNums L, (i : Int), false, l) = some (l', strOfNums L, (j : Int), false) ∧ l'.length = 64 ∧ j ≤ L.length) ∨
  (loop (Xch (strOfNums L)) ((i : Int), (k : Int), l) = some (.ret ([], 0, false)) ∧ ∃ (l' : List Int) (a : Int), loop Xa2 ((k : Int), strOfNums L, (i : Int), false, l) = some (l', strOfNums L, a, true) ∧ l'.length = 64)
 | 0, k, hk, i, l, hi, hll => .inl ⟨l, i, Xel (by unfold Xch; simp only; rw [snA]), Xel (by unfold Xa2; simp only; rw [snA]), by omega, hi⟩
 | n + 1, k, hk, i, l, hi, hll => by
  have hm : maxLen = 9223372036854775807 := rfl
  rcases Ycu hb hl 16 (by omega) i hi with ⟨q, j, e1, e2, h1, h2⟩ | ⟨e1, q, a, e2, h1⟩
  ·
   have gI : Xa2 ((k : Int), strOfNums L, (i : Int), false, l) = some (.go (((k + 1 : Nat) : Int), strOfNums L, (j : Int), false, l ++ q)) := by
    unfold Xa2
    simp only
    rw [syA]
    refine (Xfl e2).trans ?_
    simp only
    rw [rqA, wkA]
    rfl
   have gS : Xch (strOfNums L) ((i : Int), (k : Int), l) = some (.go ((j : Int), ((k + 1 : Nat) : Int), l ++ q)) := by
    unfold Xch
    simp only
    rw [syA]
    refine (Xfl e1).trans ?_
    simp only
    rw [Bool.not_true, Xav, rqA, wkA]
    rfl
   rcases Yet hb hl n (k + 1) (by omega) j (l ++ q) h2 (by rw [List.length_append]; omega) with ⟨l', j', r1, r2, r3, r4⟩ | ⟨r1, l', a, r2, r3⟩
   ·
    exact .inl ⟨l', j', lgo gS r1, lgo gI r2, r3, r4⟩
   ·
    exact .inr ⟨lgo gS r1, l', a, lgo gI r2, r3⟩
  ·
   obtain ⟨l', r1, r2⟩ := Yds (strOfNums L) a n (k + 1) (by omega) (l ++ q) (by rw [List.length_append]; omega)
   refine .inr ⟨Xel ?_, l', a, lgo ?_ r1, r2⟩
   ·
    unfold Xch
    simp only
    rw [syA]
    refine (Xfl e1).trans ?_
    rfl
   ·
    unfold Xa2
    simp only
    rw [syA]
    refine (Xfl e2).trans ?_
    simp only
    rw [rqA, wkA]
    rfl
theorem Xu9 {L : List Int} (hb : Xys L) (hl : L.length ≤ 400000) (i : Nat) (hi : i ≤ L.length) (c : Xf8) :
  (∃ (l : List Int) (j : Nat), Xd3 (strOfNums L) (i : Int) c = some (l, (j : Int), true) ∧ Xa9 ⟨strOfNums L, (i : Int), false⟩ c = some (l, ⟨strOfNums L, (j : Int), false⟩) ∧ l.length = 64 ∧ j ≤ L.length) ∨
  (Xd3 (strOfNums L) (i : Int) c = some ([], 0, false) ∧ ∃ (l : List Int) (a : Int), Xa9 ⟨strOfNums L, (i : Int), false⟩ c = some (l, ⟨strOfNums L, a, true⟩) ∧ l.length = 64) := by
 unfold Xd3 Xa9
 rw [Yhi, Xad, Xad]
 by_cases h : (c.Large || c.Exact) = true
 ·
  rw [Xcp h, Xcp h]
  rcases Ycu hb hl 64 (by omega) i hi with ⟨q, j, e1, e2, h1, h2⟩ | ⟨e1, q, a, e2, h1⟩
  ·
   exact .inl ⟨q, j, (Xfl e1).trans rfl, (Xfl e2).trans rfl, h1, h2⟩
  ·
   exact .inr ⟨(Xfl e1).trans rfl, q, a, (Xfl e2).trans rfl, h1⟩
 ·
  rw [Xbw (by simpa using h), Xbw (by simpa using h)]
  rcases Yet hb hl 4 0 rfl i [] hi rfl with ⟨l', j', r1, r2, r3, r4⟩ | ⟨r1, l', a, r2, r3⟩
  ·
   exact .inl ⟨l', j', (Xfl r1).trans rfl, (Xfl r2).trans rfl, r3, r4⟩
  ·
   exact .inr ⟨(Xfl r1).trans rfl, l', a, (Xfl r2).trans rfl, r3⟩
theorem Xy5 (s : ByteArray) (a : Int) (c : Xf8) : ∃ (q : Xao) (a' : Int), Xbz ⟨s, a, true⟩ c = some (q, ⟨s, a', true⟩) := by
 unfold Xbz
 cases hK : c.Key with
 | true => exact ⟨_, _, rfl⟩
 | false =>
  simp only
  rw [Bool.not_false, Xau, Yhu, Xad, Xad]
  exact ⟨_, _, rfl⟩
theorem Yea {L : List Int} (hb : Xys L) (hl : L.length ≤ 400000) (i : Nat) (hi : i ≤ L.length) (c : Xf8) :
  (∃ (q : Xao) (j : Nat), Xgi (strOfNums L) (i : Int) c = some (q, (j : Int), true) ∧ Xbz ⟨strOfNums L, (i : Int), false⟩ c = some (q, ⟨strOfNums L, (j : Int), false⟩) ∧ q.Levels.length ≤ 64 ∧ j ≤ L.length ∧ Xmr q = true ∧ Xil q c = true) ∨
  (Xgi (strOfNums L) (i : Int) c = some (⟨0, 0, 0, 0, []⟩, 0, false) ∧ ∃ (q : Xao) (a : Int), Xbz ⟨strOfNums L, (i : Int), false⟩ c = some (q, ⟨strOfNums L, a, true⟩)) := by
 -- the kind
 have tail : ∀ (kd : Int) (i1 : Nat), i1 ≤ L.length → (0 ≤ kd ∧ kd ≤ 2) → (c.Key = true → kd = 2) → ∀ (x y : Option (Xao × Int × Bool)) (z : Option (Xao × Xi2)),
   x = (sel (kd == 0) (some ((⟨kd, 0, 0, 0, []⟩ : Xao), (i1 : Int), true)) (sel (kd == 1) (bnd (Xbi (strOfNums L) i1) fun q5 => sel (!q5.2.2) (some ((⟨0, 0, 0, 0, []⟩ : Xao), 0, false)) (bnd (Xbi (strOfNums L) q5.2.1) fun q6 => (sel (!q6.2.2) (some ((⟨0, 0, 0, 0, []⟩ : Xao), 0, false)) (bnd (Xd3 (strOfNums L) q6.2.1 c) fun q8 => bnd (sel q8.2.2 (bnd (Xcq (⟨kd, 0, q5.1, q6.1, q8.1⟩ : Xao)) fun q10 => some (!q10)) (some true)) fun v9 => sel v9 (some ((⟨0, 0, 0, 0, []⟩ : Xao), 0, false)) (some ((⟨kd, 0, q5.1, q6.1, q8.1⟩ : Xao), q8.2.1, true)))))) (bnd (Xbg (strOfNums L) i1) fun q7 => (sel (!q7.2.2) (some ((⟨0, 0, 0, 0, []⟩ : Xao), 0, false)) (bnd (Xd3 (strOfNums L) q7.2.1 c) fun q8 => bnd (sel q8.2.2 (bnd (Xcq (⟨kd, q7.1, 0, 0, q8.1⟩ : Xao)) fun q10 => some (!q10)) (some true)) fun v9 => sel v9 (some ((⟨0, 0, 0, 0, []⟩ : Xao), 0, false)) (some ((⟨kd, q7.1, 0, 0, q8.1⟩ : Xao), q8.2.1, true))))))) →
   z = (bnd (sel (kd == 1) (bnd (Xbn (⟨strOfNums L, (i1 : Int), false⟩ : Xi2)) fun q4 => bnd (Xbn q4.2) fun q5 => bnd (Xa9 q5.2 c) fun q6 => some (q6.2.row_, q6.2.at_, q6.2.bad_, (0 : Int), q4.1, q5.1, q6.1)) (sel (kd == 2) (bnd (Xbh (⟨strOfNums L, (i1 : Int), false⟩ : Xi2)) fun q7 => bnd (Xa9 q7.2 c) fun q8 => some (q8.2.row_, q8.2.at_, q8.2.bad_, q7.1, 0, 0, q8.1)) (some (strOfNums L, (i1 : Int), false, 0, 0, 0, [])))) fun v3 => bnd (sel v3.2.2.1 (some true) (bnd (Xd7 (⟨kd, v3.2.2.2.1, v3.2.2.2.2.1, v3.2.2.2.2.2.1, v3.2.2.2.2.2.2⟩ : Xao)) fun q10 => some (!q10))) fun v9 => some ((⟨kd, v3.2.2.2.1, v3.2.2.2.2.1, v3.2.2.2.2.2.1, v3.2.2.2.2.2.2⟩ : Xao), (⟨v3.1, v3.2.1, v9⟩ : Xi2))) →
   (∃ (q : Xao) (j : Nat), x = some (q, (j : Int), true) ∧ z = some (q, ⟨strOfNums L, (j : Int), false⟩) ∧ q.Levels.length ≤ 64 ∧ j ≤ L.length ∧ Xmr q = true ∧ Xil q c = true) ∨ (x = some (⟨0, 0, 0, 0, []⟩, 0, false) ∧ ∃ (q : Xao) (a : Int), z = some (q, ⟨strOfNums L, a, true⟩)) := by
  intro kd i1 hi1 hkd hkey x _ z hx hz
  subst hx; subst hz
  obtain h0 | h1 | h2 : kd = 0 ∨ kd = 1 ∨ kd = 2 := by omega
  ·
   subst h0
   exact .inl ⟨⟨0, 0, 0, 0, []⟩, i1, rfl, rfl, by simp, hi1, rfl, by
    unfold Xil
    cases hK : c.Key with
    | false => rfl
    | true => exact absurd (hkey hK) (by decide)⟩
  ·
   subst h1
   have hlet : ∀ q : Xao, q.Kind = 1 → Xil q c = true := fun q hq => by
    unfold Xil
    cases hK : c.Key with
    | false => rfl
    | true => exact absurd (hkey hK) (by decide)
   rw [Xbw (b := ((1 : Int) == 0)) (by rfl), Xcp (b := ((1 : Int) == 1)) (by rfl), Xcp (b := ((1 : Int) == 1)) (by rfl)]
   rcases Yau hb hl i1 hi1 with ⟨dx, j, e1, e2, h1, h2, h3⟩ | ⟨e1, a, e2⟩
   ·
    rw [e1, Xad, e2, Xad]
    simp only
    rw [Bool.not_true, Xav]
    rcases Yau hb hl j h3 with ⟨dy, j2, f1, f2, g1, g2, g3⟩ | ⟨f1, a, f2⟩
    ·
     rw [f1, Xad, f2, Xad]
     simp only
     rw [Bool.not_true, Xav]
     rcases Xu9 hb hl j2 g3 c with ⟨lv, j3, k1, k2, k3, k4⟩ | ⟨k1, lv, a, k2, k3⟩
     ·
      rw [k1, Xad, k2, Xad, Xad]
      simp only
      rw [Xau, Xav, Xf0, Xad, Xeb _ (by simp only; omega), Xad, Xad, Xad]
      cases hq : Xmr ⟨1, 0, dx, dy, lv⟩ with
      | true => exact .inl ⟨_, j3, rfl, rfl, by simp only; omega, k4, hq, hlet _ rfl⟩
      | false => exact .inr ⟨rfl, _, _, rfl⟩
     ·
      rw [k1, Xad, k2, Xad, Xad]
      exact .inr ⟨rfl, _, _, rfl⟩
    ·
     rw [f1, Xad, f2, Xad]
     obtain ⟨lv, k2, _⟩ := Xq1 (strOfNums L) a c
     simp only
     rw [k2, Xad, Xad]
     exact .inr ⟨rfl, _, _, rfl⟩
   ·
    rw [e1, Xad, e2, Xad]
    obtain ⟨lv, k2, _⟩ := Xq1 (strOfNums L) a c
    simp only
    rw [Yjo, Xad]
    simp only
    rw [k2, Xad, Xad]
    exact .inr ⟨rfl, _, _, rfl⟩
  ·
   subst h2
   have hlet : ∀ q : Xao, q.Kind = 2 → Xil q c = true := fun q hq => by
    unfold Xil
    rw [hq]
    cases c.Key <;> rfl
   rw [Xbw (b := ((2 : Int) == 0)) (by rfl), Xbw (b := ((2 : Int) == 1)) (by rfl), Xbw (b := ((2 : Int) == 1)) (by rfl), Xcp (b := ((2 : Int) == 2)) (by rfl)]
   rcases Xwv hb hl i1 hi1 with ⟨m, j2, f1, f2, g1, g2, g3⟩ | ⟨f1, a, f2⟩
   ·
    rw [f1, Xad, f2, Xad]
    simp only
    rw [Bool.not_true, Xav]
    rcases Xu9 hb hl j2 g3 c with ⟨lv, j3, k1, k2, k3, k4⟩ | ⟨k1, lv, a, k2, k3⟩
    ·
     rw [k1, Xad, k2, Xad, Xad]
     simp only
     rw [Xau, Xav, Xf0, Xad, Xeb _ (by simp only; omega), Xad, Xad, Xad]
     cases hq : Xmr ⟨2, (m : Int), 0, 0, lv⟩ with
     | true => exact .inl ⟨_, j3, rfl, rfl, by simp only; omega, k4, hq, hlet _ rfl⟩
     | false => exact .inr ⟨rfl, _, _, rfl⟩
    ·
     rw [k1, Xad, k2, Xad, Xad]
     exact .inr ⟨rfl, _, _, rfl⟩
   ·
    rw [f1, Xad, f2, Xad]
    obtain ⟨lv, k2, _⟩ := Xq1 (strOfNums L) a c
    simp only
    rw [k2, Xad, Xad]
    exact .inr ⟨rfl, _, _, rfl⟩
 unfold Xgi Xbz
 simp only [Ygr]
 cases hK : c.Key with
 | true =>
  rw [Bool.not_true, Xav, Xav, Xad]
  simp only
  rw [Xav]
  exact tail 2 i hi (by omega) (fun _ => rfl) _ none _ rfl rfl
 | false =>
  rw [Bool.not_false, Xau, Xau]
  rcases Xwv hb hl i hi with ⟨v, j, e1, e2, h1, h2, h3⟩ | ⟨e1, a, e2⟩
  ·
   rw [e1, Xad, e2, Xad, Xad]
   simp only
   rw [Xau, Xad]
   by_cases hv : (v : Int) > 2
   ·
    rw [Xeu hv]
    rw [Xav, Xbw (b := (v : Int) == 1) (by rw [beq_eq_false_iff_ne]; omega), Xbw (b := (v : Int) == 2) (by rw [beq_eq_false_iff_ne]; omega), Xad]
    simp only
    have hq : Xmr ⟨(v : Int), 0, 0, 0, []⟩ = false := by
     unfold Xmr
     rw [if_neg (by simp only; omega), if_neg (by simp only; omega), if_neg (by simp only; omega)]
    rw [Xav, Xeb _ (by simp), Xad, hq]
    exact .inr ⟨trivial, _, _, rfl⟩
   ·
    rw [Xaz hv, Xav]
    exact tail v j h3 (by omega) (fun h => by rw [hK] at h; cases h) _ none _ rfl rfl
  ·
   rw [e1, Xad, e2, Xad, Xad]
   exact .inr ⟨rfl, _, _, rfl⟩
theorem Xkh (s : ByteArray) : (∃ L : List Int, s = strOfNums L ∧ Xys L ∧ L.length ≤ 400000 ∧ Xiy s = some true ∧ Xi1 s = some true) ∨ (Xiy s = some false ∧ Xi1 s = some false) := by
 have hf : Xkz s = Xeh s := rfl
 unfold Xiy Xi1
 by_cases hs : s.size ≤ 400000
 ·
  rw [snA, syA, hf]
  unfold Xld
  have hl := Xzh (fun x => x == 48 || x == 49) (Xcs s) (Xeh s) (by
   intro i hi
   rw [Xb8] at hi
   unfold Xeh
   rw [syA, rqA, rqA, Ydy s i hi, wkA]
   generalize Xtz s i = x
   cases h1 : (x == 48) <;> cases h2 : (x == 49) <;> simp only [bne, h1, h2, sel, bnd, Bool.not_true, Bool.not_false, Bool.or_false, Bool.or_true, Bool.true_or] <;> rfl) (by
   rw [Xb8]
   unfold Xeh
   rw [snA])
  rw [hl]
  by_cases hall : (Xcs s).all (fun x => x == 48 || x == 49) = true
  ·
   rw [if_pos hall]
   refine .inl ⟨Xcs s, (Xy7 s).symm, fun x hx => ?_, by rw [Xb8]; exact hs, rfl, rfl⟩
   have := List.all_eq_true.1 hall x hx
   simpa using this
  ·
   rw [if_neg hall]
   exact .inr ⟨rfl, rfl⟩
 ·
  rw [syA, snA]
  exact .inr ⟨rfl, rfl⟩
theorem Yc9 {L : List Int} (hb : Xys L) (hl : L.length ≤ 400000) (N : Nat) (hN : N ≤ 64) (c : Xf8) (hc : Xgl c = true) : ∀ n k : Nat, k + n = N → ∀ (i : Nat) (l : List Xao), i ≤ L.length → l.length = k → (∀ q ∈ l, q.Levels.length ≤ 64) → Yhn l c = true →
  (∃ (l' : List Xao) (j : Nat), loop (Xbf (strOfNums L) (N : Int) c) ((i : Int), (k : Int), l) = some (.out ((j : Int), l')) ∧ loop (Xa0 (N : Int) c) ((k : Int), strOfNums L, (i : Int), false, l) = some (.out (strOfNums L, (j : Int), false, l')) ∧ l'.length = N ∧ (∀ q ∈ l', q.Levels.length ≤ 64) ∧ Yhn l' c = true) ∨
  (loop (Xbf (strOfNums L) (N : Int) c) ((i : Int), (k : Int), l) = some (.ret ([], false)) ∧ loop (Xa0 (N : Int) c) ((k : Int), strOfNums L, (i : Int), false, l) = some (.ret ([], false)))
 | 0, k, hk, i, l, hi, hll, hq, hs => .inl ⟨l, i, Xel (by unfold Xbf; simp only; rw [snA]), Xel (by unfold Xa0; simp only; rw [snA]), by omega, hq, hs⟩
 | n + 1, k, hk, i, l, hi, hll, hq, hs => by
  have hm : maxLen = 9223372036854775807 := rfl
  rcases Yea hb hl i hi c with ⟨q, j, e1, e2, h1, h2, h3, h4⟩ | ⟨e1, q, a, e2⟩
  ·
   have gI : Xa0 (N : Int) c ((k : Int), strOfNums L, (i : Int), false, l) = some (.go (((k + 1 : Nat) : Int), strOfNums L, (j : Int), false, l ++ [q])) := by
    unfold Xa0
    simp only
    rw [syA, e2, Xad]
    simp only
    rw [Xby (by simp only [List.length_singleton]; omega), Xav, wkA]
    rfl
   have gS : Xbf (strOfNums L) (N : Int) c ((i : Int), (k : Int), l) = some (.go ((j : Int), ((k + 1 : Nat) : Int), l ++ [q])) := by
    unfold Xbf
    simp only
    rw [syA, e1, Xad]
    simp only
    rw [Bool.not_true, Xav, Xby (by simp only [List.length_singleton]; omega), wkA]
    rfl
   have hq' : ∀ x ∈ l ++ [q], x.Levels.length ≤ 64 := fun x hx => by
    rcases List.mem_append.1 hx with h | h
    ·
     exact hq x h
    ·
     rw [List.mem_singleton.1 h]; exact h1
   have hs' : Yhn (l ++ [q]) c = true := by
    unfold Yhn at hs ⊢
    rw [List.all_append, hs, Bool.true_and, List.all_cons, h3, hc, h4]; rfl
   rcases Yc9 hb hl N hN c hc n (k + 1) (by omega) j (l ++ [q]) h2 (by rw [List.length_append, hll]; rfl) hq' hs' with ⟨l', j', r1, r2, r3⟩ | ⟨r1, r2⟩
   ·
    exact .inl ⟨l', j', lgo gS r1, lgo gI r2, r3⟩
   ·
    exact .inr ⟨lgo gS r1, lgo gI r2⟩
  ·
   refine .inr ⟨Xel ?_, Xel ?_⟩
   ·
    unfold Xbf
    simp only
    rw [syA, e1, Xad]
    rfl
   ·
    unfold Xa0
    simp only
    rw [syA, e2, Xad]
    simp only
    rw [Xby (by simp only [List.length_singleton]; omega), Xau]
def Yk3 (n : Int) (c : Xf8) (l : List Xao) : Prop := Xgl c = true ∧ (1 ≤ n ∧ n ≤ 64) ∧ (l.length : Int) = n ∧ Yhn l c = true
theorem Xzb (s : ByteArray) (a n : Int) (c : Xf8) : ∃ (l : List Xao) (b : Bool), Xgt s a n c = some (l, b) ∧ Xfg s a n c = some (l, b) ∧ l.length ≤ 64 ∧ (∀ q ∈ l, q.Levels.length ≤ 64) ∧ (b = true → Yk3 n c l) := by
 have hm : maxLen = 9223372036854775807 := rfl
 have fin : ∀ {x y : Option (List Xao × Bool)}, x = some ([], false) → y = some ([], false) → ∃ (l : List Xao) (b : Bool), x = some (l, b) ∧ y = some (l, b) ∧ l.length ≤ 64 ∧ (∀ q ∈ l, q.Levels.length ≤ 64) ∧ (b = true → Yk3 n c l) := fun h1 h2 => ⟨[], false, h1, h2, by simp, fun q hq => by simp at hq, fun h => by cases h⟩
 unfold Xgt Xfg Xk1
 by_cases hn : 1 ≤ n ∧ n ≤ 64
 ·
  by_cases hc : Xgl c = true
  case neg =>
   have hc : Xgl c = false := by simpa using hc
   refine fin ?_ ?_
   ·
    rcases Xkh s with ⟨L, _, _, _, r1, _⟩ | ⟨r1, _⟩
    ·
     rw [r1, Xad, Xau, Xaj, Xad, Xad, Xad, Xaj, Xad, decide_eq_true hn, Xau, Xcr, Xad, hc, Xad]; rfl
    ·
     rw [r1, Xad, Xav, Xad, Xad, Xaj, Xad, decide_eq_true hn, Xau, Xcr, Xad, hc, Xad]; rfl
   ·
    rcases Xkh s with ⟨L, _, _, _, _, r1⟩ | ⟨_, r1⟩
    ·
     rw [r1, Xad, Xau, Xai, Xad, Xdh, Xad, hc, Xav]
     cases decide (0 ≤ a ∧ a ≤ (s.size : Int)) <;> rfl
    ·
     rw [r1, Xad, Xav, Xad, Xau]
  case pos =>
   rcases Xkh s with ⟨L, hL, hb, hl, r1, r2⟩ | ⟨r1, r2⟩
   ·
    rw [r1, r2, Xad, Xad, Xau, Xau, Xaj, Xad, Xai, Xad, Xad, Xad, Xaj, Xad, decide_eq_true hn, Xau, Xcr, Xad, hc, Xad, Xdh, Xad, hc, Xau, Xai, Xad, decide_eq_true hn]
    by_cases ha : 0 ≤ a ∧ a ≤ (s.size : Int)
    ·
     rw [decide_eq_true ha]
     simp only [Bool.not_true, Xav, Xau, Xad]
     subst hL
     rw [strOfNums_size] at ha ⊢
     obtain ⟨i, rfl⟩ : ∃ i : Nat, a = i := ⟨a.toNat, by omega⟩
     obtain ⟨N, rfl⟩ : ∃ N : Nat, n = N := ⟨n.toNat, by omega⟩
     rcases Yc9 hb hl N (by omega) c hc N 0 (by omega) i [] (by omega) rfl (fun q hq => by simp at hq) rfl with ⟨l', j, k1, k2, k3, k4, k5⟩ | ⟨k1, k2⟩
     ·
      have k1' : loop (Xbf (strOfNums L) (N : Int) c) ((i : Int), 0, []) = some (.out ((j : Int), l')) := k1
      have k2' : loop (Xa0 (N : Int) c) (0, strOfNums L, (i : Int), false, []) = some (.out (strOfNums L, (j : Int), false, l')) := k2
      rw [k1', k2', Xad, Xad]
      simp only
      by_cases hj : (j : Int) = (L.length : Int)
      ·
       rw [Xbw (by rw [bne_eq_false_iff_eq]; exact hj)]
       exact ⟨l', true, rfl, rfl, by omega, k4, fun _ => ⟨hc, hn, by omega, k5⟩⟩
      ·
       rw [Xcp (by rw [bne_iff_ne]; exact hj)]
       exact fin rfl rfl
     ·
      have k1' : loop (Xbf (strOfNums L) (N : Int) c) ((i : Int), 0, []) = some (.ret ([], false)) := k1
      have k2' : loop (Xa0 (N : Int) c) (0, strOfNums L, (i : Int), false, []) = some (.ret ([], false)) := k2
      rw [k1', k2', Xad, Xad]
      exact fin rfl rfl
    ·
     rw [decide_eq_false ha]
     simp only [Bool.not_true, Bool.not_false, Xav, Xau, Xad]
     obtain ⟨q, a', eq⟩ := Xy5 s a c
     have hd : Xa0 n c (0, s, a, true, []) = some (.done (.ret ([], false))) := by
      unfold Xa0
      simp only
      rw [syA, eq, Xad]
      simp only
      rw [Xby (by simp only [List.length_singleton, List.length_nil]; omega), Xau]
     rw [Xft hd, Xad]
     exact fin rfl rfl
   ·
    refine fin ?_ ?_
    ·
     rw [r1, Xad, Xav, Xad, Xad, Xaj, Xad, decide_eq_true hn, Xau, Xcr, Xad, hc, Xad, Bool.not_true, Xav]
     simp only
     obtain ⟨q, a', eq⟩ := Xy5 s a c
     have hd : Xa0 n c (0, s, a, true, []) = some (.done (.ret ([], false))) := by
      unfold Xa0
      simp only
      rw [syA, eq, Xad]
      simp only
      rw [Xby (by simp only [List.length_singleton, List.length_nil]; omega), Xau]
     rw [Xft hd, Xad]
    ·
     rw [r2, Xad, Xav, Xad, Xau]
 ·
  refine fin ?_ ?_
  ·
   rcases Xkh s with ⟨L, _, _, _, r1, _⟩ | ⟨r1, _⟩
   ·
    rw [r1, Xad, Xau, Xaj, Xad, Xad, Xad, Xaj, Xad, decide_eq_false hn, Xav, Xad, Xau]
   ·
    rw [r1, Xad, Xav, Xad, Xad, Xaj, Xad, decide_eq_false hn, Xav, Xad, Xau]
  ·
   rcases Xkh s with ⟨L, _, _, _, _, r1⟩ | ⟨_, r1⟩
   ·
    rw [r1, Xad, Xau, Xai, Xad, Xdh, Xad, Xai, Xad, decide_eq_false hn]
    cases decide (0 ≤ a ∧ a ≤ (s.size : Int)) <;> cases Xgl c <;> rfl
   ·
    rw [r1, Xad, Xav, Xad, Xau]
theorem Xw2 (ref : Pic) (r : Rect) (p : Par) (t : Part) : ∃ x : Pic × Bool, Xfp ref r p t = some x ∧ Xfw ref r p t = some x ∧ (x.2 = true → tbI r (x.1.Wide, x.1.High, x.1.Dots)) := by
 unfold Xfp Xfw
 rw [Xhw, Xad, Xg9, Xad]
 cases hw : Xme r.Wide with
 | false => exact ⟨_, rfl, rfl, fun h => by cases h⟩
 | true =>
  rw [Xau, Xau, Xhw, Xad, Xg9, Xad]
  cases hh : Xme r.High with
  | false => exact ⟨_, rfl, rfl, fun h => by cases h⟩
  | true =>
   have sw := Xhl hw
   have sh := Xhl hh
   have mb : r.Wide / 8 * (r.High / 8) ≤ 8 * 8 := Int.mul_le_mul (by omega) (by omega) (by omega) (by omega)
   have m0 : 1 * 1 ≤ r.Wide / 8 * (r.High / 8) := Int.mul_le_mul (by omega) (by omega) (by omega) (by omega)
   rw [Xau, Bool.not_true, Xad, Xav, rqA, rqA, Xzy, Xad, Xbk (a := r.Wide) (by omega), Xbk (a := r.High) (by omega), wkA (e := r.Wide / 8), wkA (e := r.High / 8), wkA (e := r.Wide / 8 * (r.High / 8))]
   obtain ⟨l, b, e1, e2, h1, h2, h3⟩ := Xzb t.Row 0 (r.Wide / 8 * (r.High / 8)) ⟨t.Key, t.Qp, p.Large, p.Exact⟩
   unfold Xlc Xjl Xh9
   simp only [Xad, e1, e2, Ya4]
   cases hp : Yg6 p with
   | false => exact ⟨_, rfl, rfl, fun h => by cases h⟩
   | true =>
    rw [Bool.not_true, Xav, rqA, rqA, Xau, Xad]
    cases b with
    | false => exact ⟨_, rfl, rfl, fun h => by cases h⟩
    | true =>
     obtain ⟨x, t1, t2, t3⟩ := Xze ref r ⟨t.Key, t.Qp, p.Large, p.Exact⟩ p.Confined l (by omega) (fun q hq => by have := h2 q hq; omega)
     rw [Bool.not_true, Xav, Xad, Bool.not_true, Xav, t1, t2, Xad]
     exact ⟨x, rfl, rfl, t3⟩
theorem FnExactPartShows {p0 : Pic} {p1 : Rect} {p2 : Par} {p3 : Part} (h0 : Yli p0) (h1 : Yjn p1) (h2 : Ylh p2) (h3 : Yjm p3) : Xda p0 p1 p2 p3 = some true := by
 have hm : maxLen = 9223372036854775807 := rfl
 unfold Xda
 have d0 : p0.Dots.size ≤ maxLen := h0.2.2
 have d3 : p3.Row.size ≤ maxLen := h3.2.2
 rw [Yad p0 1048576 d0 (by omega) (by omega), Xad]
 by_cases hz : (1048576 : Int) < p0.Dots.size
 ·
  rw [if_pos hz, syA]
 rw [if_neg hz, snA]
 unfold Xk7
 rw [wkA (e := 1048576 - (p0.Dots.size : Int) - (p3.Row.size : Int))]
 by_cases ht : 1048576 - (p0.Dots.size : Int) - (p3.Row.size : Int) < 0
 ·
  rw [Xeu ht, Xad, syA]
 rw [Xaz ht, Xad, Xaz ht]
 obtain ⟨x, ei, es, _⟩ := Xw2 p0 p1 p2 p3
 simp only [Xkg, Xi9, Xkf, Xi8, Xad, es, ei, Xu2, Xau, beq_self_eq_true, Bool.not_true, Xav]
end Go.Proofs.YtlebkepfhdjnmadGreat.A.Pure
