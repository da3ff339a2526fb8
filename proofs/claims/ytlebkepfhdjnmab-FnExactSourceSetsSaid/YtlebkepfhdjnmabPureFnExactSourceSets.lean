/- The pure statement of the law FnExactSourceSets: over numbers, texts and lists alone, what the law computes is true. Conditions: the sizes of what a machine holds. -/
import Derived.Test.YtlebkepfhdjnmabDFnExactSourceSets
namespace Go.Proofs.Ytlebkepfhdjnmab.A.Pure
open Go Go.Proofs Go.Proofs.YtlebkepfhdjnmabAL Go.RowKit
set_option linter.unusedVariables false
set_option linter.unusedSimpArgs false
set_option maxHeartbeats 1000000
theorem Xah {α β : Type} (a : α) (f : α → Option β) : bnd (some a) f = f a := rfl
theorem Xwa {α β : Type} {x : Option α} {a : α} {f : α → Option β} (h : x = some a) : bnd x f = f a := by subst h; rfl
theorem Xhf {β : Type} (x y : β) : sel true x y = x := rfl
theorem Xgr {β : Type} (x y : β) : sel false x y = y := rfl
theorem Xni {β : Type} (b : Bool) (x y : β) : sel (!b) x y = sel b y x := by cases b <;> rfl
theorem Xet (b x : Bool) : sel b (some x) (some false) = some (b && x) := by cases b <;> rfl
theorem Xu4 (b x : Bool) : sel b (some true) (some x) = some (b || x) := by cases b <;> rfl
theorem Xkd (b x : Bool) : sel b (some x) (some true) = some (!b || x) := by cases b <;> rfl
theorem Xzc {β : Type} (b : Bool) (x y : β) : sel b x y = if b = true then x else y := by cases b <;> rfl
theorem Yad {β : Type} (p : Prop) [Decidable p] (x y : β) : sel (decide p) x y = if p then x else y := by
 by_cases h : p <;> simp [h, sel]
theorem Xf7 {β : Type} {b : Bool} {x y : β} (h : b = true) : sel b x y = x := by subst h; rfl
theorem Xcq {β : Type} {b : Bool} {x y : β} (h : b = false) : sel b x y = y := by subst h; rfl
theorem Xf8 {β : Type} {p : Prop} [Decidable p] {x y : β} (h : p) : sel (decide p) x y = x := by simp [h, sel]
theorem Xeu {β : Type} {p : Prop} [Decidable p] {x y : β} (h : ¬ p) : sel (decide p) x y = y := by simp [h, sel]
theorem Xbb {β : Type} {c : Prop} [Decidable c] {k : Option β} (h : c) : req c k = k := if_pos h
theorem wk {e : Int} (h1 : -9223372036854775808 ≤ e) (h2 : e ≤ 9223372036854775807) : Xag .i64 e = e := by
 show wrap64 e = e
 unfold wrap64; omega
theorem rqA {β : Type} {c : Prop} [Decidable c] {k : Option β} (h : c := by omega) : req c k = k := Xbb h
theorem syA {β : Type} {c : Prop} [Decidable c] {x y : β} (h : c := by omega) : sel (decide c) x y = x := Xf8 h
theorem snA {β : Type} {c : Prop} [Decidable c] {x y : β} (h : ¬ c := by omega) : sel (decide c) x y = y := Xeu h
theorem wkA {e : Int} (h1 : -9223372036854775808 ≤ e := by omega) (h2 : e ≤ 9223372036854775807 := by omega) : Xag .i64 e = e := wk h1 h2
theorem w8 {e : Int} (h1 : 0 ≤ e) (h2 : e ≤ 255) : Xag .u8 e = e := by
 show IntKind.wrap .u8 e = e
 simp [IntKind.wrap, IntKind.signed, IntKind.bits]; omega
theorem Ybn {n : Int} (h : (Lit.int .i64 n).wf = true) : -9223372036854775808 ≤ n ∧ n ≤ 9223372036854775807 := by
 simp [Lit.wf, IntKind.min, IntKind.max, IntKind.signed, IntKind.bits] at h
 omega
theorem Xg9 {a b : Int} (h : 0 ≤ a) : Int.tmod a b = a % b := Int.tmod_eq_emod_of_nonneg h
theorem Xje {a b : Int} (h : 0 ≤ a) : Int.tdiv a b = a / b := Int.tdiv_eq_ediv_of_nonneg h
theorem Xyy {P : Nat → Prop} (n : Nat) (h0 : P n) (hs : ∀ i, i < n → P (i + 1) → P i) : ∀ i, i ≤ n → P i := by
 intro i hi
 obtain ⟨k, rfl⟩ : ∃ k, n = i + k := ⟨n - i, by omega⟩
 clear hi
 induction k generalizing i with
 | zero => exact h0
 | succ k ih =>
  refine hs i (by omega) ?_
  exact ih (i + 1) (by rw [show i + 1 + k = i + (k + 1) by omega]; exact h0) (fun j hj => hs j (by omega))
theorem lgo {V O : Type} {f : V → Option (Lp V O)} {x y : V} {r : Option O} (h : f x = some (.go y)) (k : loop f y = r) : loop f x = r := by rw [Xd6 h]; exact k
theorem Xgp {V O : Type} {f : V → Option (Lp V O)} {x : V} {o : O} (h : f x = some (.done o)) : loop f x = some o := Xb0 h
theorem Xxx {V O : Type} {f : V → Option (Lp V O)} (I : V → Prop) (m : V → Nat) (Q : V → O → Prop) (h : ∀ v, I v → (∃ o, f v = some (.done o) ∧ Q v o) ∨ ∃ v', f v = some (.go v') ∧ I v' ∧ m v' < m v ∧ ∀ o, Q v' o → Q v o) : ∀ v, I v → ∃ o, loop f v = some o ∧ Q v o := by
 intro v
 generalize hn : m v = n
 induction n using Nat.strongRecOn generalizing v with
 | _ n ih =>
  intro hv
  rcases h v hv with ⟨o, h1, h2⟩ | ⟨v', h1, h2, h3, h4⟩
  ·
   exact ⟨o, Xb0 h1, h2⟩
  ·
   obtain ⟨o, h5, h6⟩ := ih (m v') (by omega) v' rfl h2
   exact ⟨o, by rw [Xd6 h1]; exact h5, h4 o h6⟩
theorem Xq0 {α : Type} (l : List α) (i : Nat) (h : i < l.length) (d : α) : l.getD i d = l[i] := by
 simp [List.getD_eq_getElem?_getD, List.getElem?_eq_getElem h]
theorem Xa4 (a b c : Int) : Xal a b c = some (decide (b ≤ a ∧ a ≤ c)) := by
 unfold Xal
 by_cases h : b ≤ a <;> simp [bnd, sel, h]
theorem Xca (a b c : Int) : Xat a b c = some (decide (b ≤ a ∧ a ≤ c)) := by
 unfold Xat
 by_cases h : b ≤ a <;> simp [bnd, sel, h]
theorem Xke {α : Type} (a : List α) (x y : α) (b : List α) : (a ++ x :: b).set a.length y = a ++ y :: b := by
 induction a with
 | nil => rfl
 | cons z a ih => simp only [List.cons_append, List.length_cons, List.set_cons_succ, ih]
theorem Xe7 {α : Type} (a : List α) (x d : α) (b : List α) : (a ++ x :: b).getD a.length d = x := by
 induction a with
 | nil => rfl
 | cons z a ih => simp
theorem Xwf {α β : Type} (l : List α) (g : α → β) (d : α) (e : β) {f : (Int × List β) → Option (Lp (Int × List β) (List β))}
  (h : ∀ (i : Nat) (o : List β), i < l.length → o.length = l.length → f ((i : Int), o) = some (.go (((i + 1 : Nat) : Int), o.set i (g (l.getD i d))))) (h0 : ∀ o, f ((l.length : Int), o) = some (.done o)) : loop f (0, List.replicate l.length e) = some (l.map g) := by
 have key : ∀ (r a : List α), l = a ++ r → loop f ((a.length : Int), a.map g ++ List.replicate r.length e) = some (l.map g) := by
  intro r
  induction r with
  | nil =>
   intro a ha
   rw [List.append_nil] at ha
   subst ha
   rw [Xb0 (h0 _)]; simp
  | cons x r ih =>
   intro a ha
   have hlen : a.length < l.length := by rw [ha]; simp
   rw [Xd6 (h a.length _ hlen (by rw [ha]; simp))]
   have e1 : l.getD a.length d = x := by rw [ha]; exact Xe7 a x d r
   have e2 : (a.map g ++ List.replicate (x :: r).length e).set a.length (g x) = (a ++ [x]).map g ++ List.replicate r.length e := by
    have := Xke (a.map g) e (g x) (List.replicate r.length e)
    rw [List.length_map] at this
    rw [List.length_cons, List.replicate_succ, this]
    simp
   rw [e1, e2]
   have := ih (a ++ [x]) (by rw [ha]; simp)
   rw [List.length_append, List.length_singleton] at this
   exact this
 exact key l [] rfl
theorem Xnj {f : Int → Option (Lp Int (Ou Unit Bool))} (n : Nat) (h : ∀ i : Nat, i < n → f i = some (.go ((i + 1 : Nat) : Int))) (h0 : f n = some (.done (.out ()))) : loop f 0 = some (.out ()) :=
 Xyy (P := fun i => loop f (i : Int) = some (.out ())) n (Xb0 h0) (fun i hi ih => by rw [Xd6 (h i hi)]; exact ih) 0 (by omega)
theorem Xjd (n : Int) : (strOfNums [n]).size = 1 := rfl
theorem Xk9 (k : Int) (h0 : 0 < k) (h1 : k ≤ 1000000000000) : ∃ s, Xbe k = some s := by
 unfold Xbe
 rw [snA]
 obtain ⟨o, h, h2⟩ := Xxx (f := Xcn) (fun v => 0 ≤ v.1 ∧ v.1 + v.2.size ≤ 1000000000000) (fun v => v.1.toNat) (fun _ o => o.size ≤ 1000000000000) (by
  intro ⟨n, s⟩ ⟨a, b⟩
  unfold Xcn
  simp only at a b ⊢
  by_cases h : n > 0
  ·
   rw [Xf8 h, Xbb (by decide), Xjd, rqA, Xbb (by decide), Xje a]
   refine .inr ⟨_, rfl, ?_, ?_, fun _ h => h⟩
   ·
    simp only [ByteArray.size_append, Xjd]
    rw [wkA]; omega
   ·
    simp only
    rw [wkA]; omega
  ·
   rw [Xeu h]
   exact .inl ⟨_, rfl, by omega⟩) (k, ⟨#[]⟩) ⟨by simp only; omega, by simp only [show (⟨#[]⟩ : ByteArray).size = 0 from rfl]; omega⟩
 rw [h, Xah, Xbb (by simp only [show (⟨#[109]⟩ : ByteArray).size = 1 from rfl]; omega)]
 exact ⟨_, rfl⟩
noncomputable def mT (k : Int) : ByteArray := (Xbe k).getD ⟨#[]⟩
theorem Xgg (k : Int) (h0 : 0 < k) (h1 : k ≤ 1000000000000) : Xbe k = some (mT k) := by
 obtain ⟨s, h⟩ := Xk9 k h0 h1
 unfold mT; rw [h]; rfl
def Xm8 (r : Rate) : Bool := decide (0 ≤ r.Qp ∧ r.Qp ≤ 40 ∧ 1 ≤ r.Target ∧ r.Target ≤ 100000 ∧ -8 * r.Target ≤ r.Debt ∧ r.Debt ≤ 8 * r.Target)
theorem Xop (r : Rate) : Xel r = some (Xm8 r) := by
 unfold Xel Xm8
 simp only [Xa4, Xah]
 by_cases h1 : 0 ≤ r.Qp ∧ r.Qp ≤ 40
 ·
  rw [Xf8 h1]
  by_cases h2 : 1 ≤ r.Target ∧ r.Target ≤ 100000
  ·
   rw [Xf8 h2, wkA, wkA, Xah]
   simp only [h1.1, h1.2, h2.1, h2.2, true_and]
  ·
   rw [Xeu h2, Xah]; congr 1; symm; rw [decide_eq_false_iff_not]; exact fun h => h2 ⟨h.2.2.1, h.2.2.2.1⟩
 ·
  rw [Xeu h1, Xah]; congr 1; symm; rw [decide_eq_false_iff_not]; exact fun h => h1 ⟨h.1, h.2.1⟩
def Xb1 (n : Int) : Bool := decide (1 ≤ n ∧ n ≤ 8)
def Xsy : List Int → Int
 | [] => 0
 | x :: r => x + Xsy r
def Xbh (l : List Int) : Bool := decide (1 ≤ l.length ∧ l.length ≤ 4) && l.all Xb1
def Xkm (l : List Int) : Int := if Xbh l = true then Xsy l else 0
theorem Xh7 : ∀ {l : List Int}, l.all Xb1 = true → (l.length : Int) ≤ Xsy l ∧ Xsy l ≤ 8 * l.length
 | [], _ => by simp [Xsy]
 | x :: r, h => by
  rw [List.all_cons, Bool.and_eq_true] at h
  have := Xh7 h.2
  have hx := h.1
  unfold Xb1 at hx
  simp only [decide_eq_true_eq] at hx
  rw [Xsy, List.length_cons]
  omega
theorem Xkw (l : List Int) : 0 ≤ Xkm l ∧ Xkm l ≤ 32 := by
 unfold Xkm
 split
 ·
  rename_i h
  unfold Xbh at h
  rw [Bool.and_eq_true, decide_eq_true_eq] at h
  have := Xh7 h.2
  omega
 ·
  omega
theorem Xdu (l : List Int) : Xb7 l = some (Xkm l) := by
 unfold Xb7 Xkm Xbh
 rw [Xu4, Xah]
 by_cases h : 1 ≤ l.length ∧ l.length ≤ 4
 ·
  rw [Xcq (by simp; omega), decide_eq_true h, Bool.true_and]
  have key : ∀ (r a : List Int) (t : Int), l = a ++ r → 0 ≤ t → t ≤ 8 * a.length → loop (Xbx l) (t, (a.length : Int)) = some (if r.all Xb1 = true then .out (t + Xsy r) else .ret 0) := by
   intro r
   induction r with
   | nil =>
    intro a t ha h0 h1
    rw [List.append_nil] at ha
    refine Xgp ?_
    unfold Xbx
    simp only
    rw [Xeu (by rw [ha]; omega)]
    simp [Xsy]
   | cons x r ih =>
    intro a t ha h0 h1
    have hlen : a.length < l.length := by rw [ha]; simp
    have hx : l.getD a.length 0 = x := by rw [ha]; exact Xe7 a x _ r
    have hstep : Xbx l (t, (a.length : Int)) = sel (Xb1 x) (some (.go (Xag .i64 (t + x), ((a.length + 1 : Nat) : Int)))) (some (.done (.ret 0))) := by
     unfold Xbx
     simp only [Int.toNat_natCast, hx]
     rw [syA, rqA, Xca, Xah, Xni, rqA, wkA (e := (a.length : Int) + 1)]
     rfl
    cases e : Xb1 x with
    | true =>
     rw [e] at hstep
     have hx2 := e
     unfold Xb1 at hx2
     simp only [decide_eq_true_eq] at hx2
     rw [wkA, Xhf] at hstep
     have := ih (a ++ [x]) (t + x) (by rw [ha]; simp) (by omega) (by simp; omega)
     rw [List.length_append, List.length_singleton] at this
     rw [Xd6 hstep, this, List.all_cons, e, Bool.true_and, Xsy, Int.add_assoc]
    | false =>
     rw [e, Xgr] at hstep
     rw [Xb0 hstep, List.all_cons, e, Bool.false_and]; rfl
  have := key l [] 0 rfl (by omega) (by simp)
  simp only [List.length_nil, Int.zero_add] at this
  rw [show (((0 : Int), (0 : Int))) = (0, ((0 : Nat) : Int)) from rfl, this, Xah]
  cases l.all Xb1 <;> rfl
 ·
  rw [Xf7 (by simp; omega), decide_eq_false h, Bool.false_and]; rfl
theorem Xef (l : List Int) (h : Xbh l = true) : Xcr l = some (Xsy l) := by
 unfold Xbh at h
 rw [Bool.and_eq_true, decide_eq_true_eq] at h
 unfold Xcr
 have key : ∀ (r a : List Int) (t : Int), l = a ++ r → 0 ≤ t → t ≤ 8 * a.length → loop (Xc2 l) (t, (a.length : Int)) = some (t + Xsy r) := by
  intro r
  induction r with
  | nil =>
   intro a t ha h0 h1
   rw [List.append_nil] at ha
   refine Xgp ?_
   unfold Xc2
   simp only
   rw [Xeu (by rw [ha]; omega)]
   simp [Xsy]
  | cons x r ih =>
   intro a t ha h0 h1
   have hlen : a.length < l.length := by rw [ha]; simp
   have hx : l.getD a.length 0 = x := by rw [ha]; exact Xe7 a x _ r
   have e : Xb1 x = true := List.all_eq_true.1 h.2 x (by rw [ha]; simp)
   unfold Xb1 at e
   simp only [decide_eq_true_eq] at e
   have := ih (a ++ [x]) (t + x) (by rw [ha]; simp) (by omega) (by simp; omega)
   rw [List.length_append, List.length_singleton] at this
   rw [Xsy, ← Int.add_assoc, ← this]
   refine Xd6 ?_
   unfold Xc2
   simp only [Int.toNat_natCast, hx]
   rw [syA, rqA, wkA (e := (a.length : Int) + 1), wkA]
   rfl
 have := key l [] 0 rfl (by omega) (by simp)
 simp only [List.length_nil, Int.zero_add] at this
 rw [show (((0 : Int), (0 : Int))) = (0, ((0 : Nat) : Int)) from rfl, this, Xah]
def Xe3 (s : Seq) : Int := Xkm s.Cols * Xkm s.Rows
theorem Xhy (s : Seq) : 0 ≤ Xe3 s ∧ Xe3 s ≤ 1024 := by
 unfold Xe3
 have h1 := Xkw s.Cols
 have h2 := Xkw s.Rows
 refine ⟨Int.mul_nonneg h1.1 h2.1, ?_⟩
 calc Xkm s.Cols * Xkm s.Rows ≤ 32 * Xkm s.Rows := Int.mul_le_mul_of_nonneg_right h1.2 h2.1
  _ ≤ 1024 := by omega
theorem Xkj (s : Seq) : Xci s = some (Xe3 s) := by
 have h := Xhy s
 unfold Xci
 rw [Xdu, Xah, Xdu, Xah, wk (by show _ ≤ Xe3 s; omega) (by show Xe3 s ≤ _; omega)]
 rfl
theorem Xvw (s : Seq) (n : Nat) (hn : n = 0 ∨ n = 1) (l : List Int) (hl : ([s.Cols, s.Rows]).getD n Xcm = l) (h4 : l.length ≤ 4) : loop (Xas s (n : Int)) 0 = some (if l.all Xb1 = true then .out () else .ret 0) := by
 have key : ∀ (r a : List Int), l = a ++ r → loop (Xas s (n : Int)) (a.length : Int) = some (if r.all Xb1 = true then .out () else .ret 0) := by
  intro r
  induction r with
  | nil =>
   intro a ha
   rw [List.append_nil] at ha
   refine Xgp ?_
   unfold Xas
   rw [Int.toNat_natCast, hl, Xeu (by rw [ha]; omega)]; rfl
  | cons x r ih =>
   intro a ha
   have hlen : a.length < l.length := by rw [ha]; simp
   have hx : l.getD a.length 0 = x := by rw [ha]; exact Xe7 a x _ r
   have hstep : Xas s (n : Int) (a.length : Int) = sel (Xb1 x) (some (.go ((a.length + 1 : Nat) : Int))) (some (.done (.ret 0))) := by
    unfold Xas
    simp only [Int.toNat_natCast, hl, hx]
    rw [syA, rqA, Xa4, Xah, Xni, wkA]
    rfl
   cases e : Xb1 x with
   | true =>
    rw [e, Xhf] at hstep
    have := ih (a ++ [x]) (by rw [ha]; simp)
    rw [List.length_append, List.length_singleton] at this
    rw [Xd6 hstep, this, List.all_cons, e, Bool.true_and]
   | false => rw [e, Xgr] at hstep; rw [Xb0 hstep, List.all_cons, e, Bool.false_and]; rfl
 exact key l [] rfl
theorem Xjv (s : Seq) (h1 : s.Cols.length ≤ maxLen) (h2 : s.Rows.length ≤ maxLen) : Xcf s = some (Xe3 s) := by
 have h := Xhy s
 unfold Xcf
 have step : ∀ (n : Nat) (l : List Int), n = 0 ∨ n = 1 → ([s.Cols, s.Rows]).getD n Xcm = l → Xa1 s (n : Int) = sel (Xbh l) (some (.go ((n + 1 : Nat) : Int))) (some (.done (.ret 0))) := by
  intro n l hn hl
  unfold Xa1 Xbh
  rw [Int.toNat_natCast, hl]
  simp only [List.length_cons, List.length_nil]
  rw [syA, rqA, rqA, Xa4, Xah, Xni]
  by_cases h4 : 1 ≤ l.length ∧ l.length ≤ 4
  ·
   rw [syA, Xvw s n hn l hl h4.2, Xah, decide_eq_true h4, Bool.true_and, wkA]
   cases l.all Xb1 <;> rfl
  ·
   rw [snA, decide_eq_false h4, Bool.false_and, Xgr]
 have s0 := step 0 s.Cols (.inl rfl) rfl
 have s1 := step 1 s.Rows (.inr rfl) rfl
 have s2 : Xa1 s ((2 : Nat) : Int) = some (.done (.out ())) := by unfold Xa1; rw [Xeu (by simp)]
 rw [show (0 : Int) = ((0 : Nat) : Int) from rfl]
 unfold Xe3 at h ⊢
 unfold Xkm at h ⊢
 cases e0 : Xbh s.Cols with
 | false => rw [e0, Xgr] at s0; rw [Xb0 s0, Xah]; simp
 | true =>
  rw [e0, Xhf] at s0
  rw [Xd6 s0]
  cases e1 : Xbh s.Rows with
  | false => rw [e1, Xgr] at s1; rw [Xb0 s1, Xah]; simp
  | true =>
   rw [e1, Xhf] at s1
   rw [Xd6 s1, Xb0 s2, Xah]
   simp only
   rw [e0, e1, if_pos rfl, if_pos rfl] at h
   rw [Xef _ e0, Xah, Xef _ e1, Xah, wkA]
   simp
def Xcs (n : Int) : Int := if n = 1 then 16 else if n = 2 then 64 else if n = 3 then 256 else 0
theorem Xhh (n : Int) : Xbm n = some (Xcs n) := by
 unfold Xbm Xcs
 simp only [Xzc, beq_iff_eq]
 repeat' split
 all_goals rfl
theorem Xhc (n : Int) : Xbj n = some (Xcs n) := by
 unfold Xbj Xcs
 rw [Xa4, Xah, Xni]
 by_cases h : 1 ≤ n ∧ n ≤ 3
 ·
  rw [Xf8 h, wkA, Xbb (by simp only [List.length_cons, List.length_nil]; omega), Xbb (by simp only [List.length_cons, List.length_nil]; omega)]
  rcases (show n = 1 ∨ n = 2 ∨ n = 3 by omega) with rfl | rfl | rfl <;> rfl
 ·
  rw [Xeu h, if_neg (by omega), if_neg (by omega), if_neg (by omega)]
def Xfu (s : Seq) : Bool := decide (1 ≤ Xe3 s ∧ Xe3 s ≤ Xcs s.Level) && decide (3 ≤ s.Bits ∧ s.Bits ≤ 8)
theorem Xi8 (s : Seq) : Xej s = some (Xfu s) := by
 unfold Xej Xfu
 simp only [Xkj, Xhh, Xca, Xah, Xet]
theorem Xf1 (s : Seq) (h1 : s.Cols.length ≤ maxLen) (h2 : s.Rows.length ≤ maxLen) : Xdb s = some (Xfu s) := by
 unfold Xdb Xfu
 simp only [Xjv s h1 h2, Xhc, Xa4, Xah, Xet]
theorem Xb3 {s : Seq} (h : Xfu s = true) : Xbh s.Cols = true ∧ Xbh s.Rows = true ∧ 3 ≤ s.Bits ∧ s.Bits ≤ 8 := by
 unfold Xfu at h
 rw [Bool.and_eq_true, decide_eq_true_eq, decide_eq_true_eq] at h
 obtain ⟨⟨h1, _⟩, h3⟩ := h
 unfold Xe3 Xkm at h1
 refine ⟨?_, ?_, h3⟩
 ·
  refine Classical.byContradiction fun e => ?_
  rw [if_neg e, Int.zero_mul] at h1; omega
 ·
  refine Classical.byContradiction fun e => ?_
  rw [if_neg e, Int.mul_zero] at h1; omega
def Xgb (s : Seq) : Int := if Xfu s = true then (s.Cols.length : Int) * s.Rows.length else 0
theorem Xer {l : List Int} (h : Xbh l = true) : 1 ≤ l.length ∧ l.length ≤ 4 := by
 unfold Xbh at h; rw [Bool.and_eq_true, decide_eq_true_eq] at h; exact h.1
theorem Xn7 {s : Seq} (h : Xfu s = true) : 1 ≤ (s.Cols.length : Int) * s.Rows.length ∧ (s.Cols.length : Int) * s.Rows.length ≤ 16 := by
 obtain ⟨h1, h2, _⟩ := Xb3 h
 have a := Xer h1
 have b := Xer h2
 have e : ∀ x y : Nat, 1 ≤ x → x ≤ 4 → 1 ≤ y → y ≤ 4 → 1 ≤ x * y ∧ x * y ≤ 16 := by
  intro x y h1 h2 h3 h4
  rcases (show x = 1 ∨ x = 2 ∨ x = 3 ∨ x = 4 by omega) with rfl | rfl | rfl | rfl <;> omega
 have := e _ _ a.1 a.2 b.1 b.2
 rw [← Int.natCast_mul]; omega
theorem Xns (s : Seq) : Xdz s = some (Xgb s) := by
 unfold Xdz Xgb
 rw [Xi8, Xah, Xni]
 cases h : Xfu s with
 | false => rfl
 | true => have := Xn7 h; rw [Xhf, wkA, if_pos rfl]
theorem Xml (s : Seq) (h1 : s.Cols.length ≤ maxLen) (h2 : s.Rows.length ≤ maxLen) : Xdw s = some (Xgb s) := by
 unfold Xdw Xgb
 rw [Xf1 s h1 h2, Xah, Xni]
 cases h : Xfu s with
 | false => rfl
 | true => have := Xn7 h; rw [Xhf, wkA, if_pos rfl]
def Xkf (s : Seq) : Int × Int := if Xfu s = true then (8 * Xsy s.Cols, 8 * Xsy s.Rows) else (0, 0)
theorem Xq9 {l : List Int} (h : Xbh l = true) : 1 ≤ Xsy l ∧ Xsy l ≤ 32 := by
 unfold Xbh at h
 rw [Bool.and_eq_true, decide_eq_true_eq] at h
 have := Xh7 h.2
 omega
theorem Xpy (s : Seq) : Xex s = some (Xkf s) := by
 unfold Xex Xkf
 rw [Xi8, Xah, Xni]
 cases h : Xfu s with
 | false => rfl
 | true =>
  obtain ⟨h1, h2, _⟩ := Xb3 h
  have a := Xq9 h1
  have b := Xq9 h2
  rw [Xhf, Xdu, Xah, Xdu, Xah, if_pos rfl]
  unfold Xkm
  rw [if_pos h1, if_pos h2, wkA, wkA]
theorem Xov (s : Seq) (h1 : s.Cols.length ≤ maxLen) (h2 : s.Rows.length ≤ maxLen) : Xen s = some (Xkf s) := by
 unfold Xen Xkf
 rw [Xf1 s h1 h2, Xah, Xni]
 cases h : Xfu s with
 | false => rfl
 | true =>
  obtain ⟨h1, h2, _⟩ := Xb3 h
  have a := Xq9 h1
  have b := Xq9 h2
  rw [Xhf, Xef _ h1, Xah, Xef _ h2, Xah, if_pos rfl, wkA, wkA]
def Xlf (p : Par) : Bool := decide (0 ≤ p.Qp ∧ p.Qp ≤ 40) && !(p.Large && p.Exact)
theorem Xr7 (p : Par) : Xfv p = some (Xlf p) := by
 unfold Xfv Xlf
 rw [Xca, Xah, Xkd, Xet, Xah]
 cases p.Large <;> cases p.Exact <;> rfl
theorem Xiv (p : Par) : Xei p = some (Xlf p) := by
 unfold Xei Xlf
 rw [Xa4, Xah, Xkd, Xet, Xah]
 cases p.Large <;> cases p.Exact <;> rfl
def Xwu (p : Pic) : Bool := decide (1 ≤ p.Wide ∧ p.Wide ≤ 256) && (decide (1 ≤ p.High ∧ p.High ≤ 256) && ((p.Dots.size : Int) == p.Wide * p.High))
theorem Xqd {w h : Int} (h1 : 1 ≤ w ∧ w ≤ 256) (h2 : 1 ≤ h ∧ h ≤ 256) : 1 ≤ w * h ∧ w * h ≤ 65536 := by
 have a : w * 1 ≤ w * h := Int.mul_le_mul_of_nonneg_left h2.1 (by omega)
 have b : w * h ≤ 256 * h := Int.mul_le_mul_of_nonneg_right h1.2 (by omega)
 omega
theorem Xr9 (p : Pic) : Xfw p = some (Xwu p) := by
 unfold Xfw Xwu
 simp only [Xca, Xah, Xet]
 by_cases h1 : 1 ≤ p.Wide ∧ p.Wide ≤ 256
 ·
  by_cases h2 : 1 ≤ p.High ∧ p.High ≤ 256
  ·
   have := Xqd h1 h2
   rw [wkA]
  ·
   rw [decide_eq_false h2, Bool.false_and, Bool.false_and]
 ·
  rw [decide_eq_false h1, Bool.false_and, Bool.false_and]
theorem Xq2 (p : Pic) : Xfj p = some (Xwu p) := by
 unfold Xfj Xwu
 simp only [Xa4, Xah, Xet]
 by_cases h1 : 1 ≤ p.Wide ∧ p.Wide ≤ 256
 ·
  by_cases h2 : 1 ≤ p.High ∧ p.High ≤ 256
  ·
   have := Xqd h1 h2
   rw [wkA]
  ·
   rw [decide_eq_false h2, Bool.false_and, Bool.false_and]
 ·
  rw [decide_eq_false h1, Bool.false_and, Bool.false_and]
def Xxp (p : Pic) (s : Seq) : Bool := Xwu p && ((p.Wide == (Xkf s).1) && (p.High == (Xkf s).2))
theorem Xsv (p : Pic) (s : Seq) (h1 : s.Cols.length ≤ maxLen) (h2 : s.Rows.length ≤ maxLen) : Xgk p s = some (Xxp p s) := by
 unfold Xgk Xxp
 simp only [Xov s h1 h2, Xq2, Xah, Xet]
theorem Xps (r : Rate) : Xew r = some (Xm8 r) := by
 unfold Xew Xm8
 simp only [Xca, Xah]
 by_cases h1 : 0 ≤ r.Qp ∧ r.Qp ≤ 40
 ·
  rw [Xf8 h1]
  by_cases h2 : 1 ≤ r.Target ∧ r.Target ≤ 100000
  ·
   rw [Xf8 h2, wkA, wkA, Xah]
   simp only [h1.1, h1.2, h2.1, h2.2, true_and]
  ·
   rw [Xeu h2, Xah]; congr 1; symm; rw [decide_eq_false_iff_not]; exact fun h => h2 ⟨h.2.2.1, h.2.2.2.1⟩
 ·
  rw [Xeu h1, Xah]; congr 1; symm; rw [decide_eq_false_iff_not]; exact fun h => h1 ⟨h.1, h.2.1⟩
def Xeh (s : Source) : Bool :=
 decide (Xgb s.Seq = 1) && Xlf s.Par && Xm8 s.Rate && decide (0 ≤ s.Frame ∧ s.Frame < 2 ^ s.Seq.Bits.toNat) && decide ((1 ≤ s.Every ∧ s.Every ≤ 1000) ∧ (0 ≤ s.Since ∧ s.Since ≤ 1000) ∧ (0 ≤ s.Reach ∧ s.Reach ≤ 4)) &&
 (if s.Has = true then Xxp s.Ref s.Seq else decide (s.Ref.Wide = 0 ∧ s.Ref.High = 0 ∧ s.Ref.Dots.size = 0))
theorem Xuc {b : Int} (h : 3 ≤ b ∧ b ≤ 8) : (2 : Int) ^ min b.toNat (IntKind.bits .i64) = 2 ^ b.toNat ∧ (8 : Int) ≤ 2 ^ b.toNat ∧ (2 : Int) ^ b.toNat ≤ 256 := by
 rcases (show b = 3 ∨ b = 4 ∨ b = 5 ∨ b = 6 ∨ b = 7 ∨ b = 8 by omega) with rfl | rfl | rfl | rfl | rfl | rfl <;> decide
theorem Xn6 {s : Seq} (h : Xgb s = 1) : Xfu s = true := by
 unfold Xgb at h
 refine Classical.byContradiction fun e => ?_
 rw [if_neg e] at h; cases h
theorem Xw0 (b : ByteArray) : (b.toList == (⟨#[]⟩ : ByteArray).toList) = decide (b.size = 0) := by
 rw [ByteArray.toList_eq, ByteArray.toList_eq, Bool.eq_iff_iff]
 obtain ⟨⟨l⟩⟩ := b
 show (l == []) = true ↔ decide (l.length = 0) = true
 cases l <;> simp
theorem Xli (s : Source) (hb : (Lit.int .i64 s.Seq.Bits).wf = true) : Xc8 s = some (Xeh s) := by
 have hb' := Ybn hb
 unfold Xc8 Xeh
 rw [Xns, Xah]
 by_cases h1 : Xgb s.Seq = 1
 ·
  have hs := (Xb3 (Xn6 h1)).2.2
  have hp := Xuc hs
  have e64 : Xag .u64 s.Seq.Bits = s.Seq.Bits := by
   show IntKind.wrap .u64 s.Seq.Bits = _
   simp [IntKind.wrap, IntKind.signed, IntKind.bits]; omega
  rw [Xcq (by simp [h1]), e64, rqA, hp.1, wkA, Xr7, Xah, Xps, Xah, Xu4, Xkd, Xkd, Xah]
  simp only [Xca, Xah, Xkd]
  rw [decide_eq_true h1, Bool.true_and]
  cases hpar : Xlf s.Par with
  | false => rfl
  | true =>
   cases hr : Xm8 s.Rate with
   | false => rfl
   | true =>
    by_cases hf : 0 ≤ s.Frame ∧ s.Frame < 2 ^ s.Seq.Bits.toNat
    ·
     rw [Xcq (by simp; omega), decide_eq_true hf]
     by_cases h3 : (1 ≤ s.Every ∧ s.Every ≤ 1000) ∧ (0 ≤ s.Since ∧ s.Since ≤ 1000) ∧ (0 ≤ s.Reach ∧ s.Reach ≤ 4)
     ·
      rw [Xcq (by simp; omega), decide_eq_true h3, Xpy, Xah]
      cases s.Has with
      | true =>
       rw [Xhf]
       simp only [Xr9, Xah, Xet, Xxp]
       rfl
      | false =>
       rw [Xgr]
       simp only [Xah, Xet]
       congr 1
       rw [Bool.eq_iff_iff]; simp
     ·
      rw [Xf7 (by simp; omega), decide_eq_false h3]; simp
    ·
     rw [Xf7 (by simp; omega), decide_eq_false hf]; simp
 ·
  rw [Xf7 (by simpa using h1), Xah, Xhf, decide_eq_false h1]; simp
theorem Xk2 (s : Source) (h1 : s.Seq.Cols.length ≤ maxLen) (h2 : s.Seq.Rows.length ≤ maxLen) : Xcy s = some (Xeh s) := by
 unfold Xcy Xeh
 rw [Xml _ h1 h2, Xah]
 by_cases ht : Xgb s.Seq = 1
 ·
  have hs := (Xb3 (Xn6 ht)).2.2
  have hp := Xuc hs
  rw [Xcq (by simp [ht]), rqA, hp.1, wkA (e := 1 * 2 ^ s.Seq.Bits.toNat), wkA, Xiv, Xah, Xop, Xah]
  simp only [Xa4, Xah, Xkd]
  rw [decide_eq_true ht, Bool.true_and]
  cases hpar : Xlf s.Par with
  | false => rfl
  | true =>
   cases hr : Xm8 s.Rate with
   | false => rfl
   | true =>
    by_cases hf : 0 ≤ s.Frame ∧ s.Frame < 2 ^ s.Seq.Bits.toNat
    ·
     rw [decide_eq_true hf]
     by_cases h3 : (1 ≤ s.Every ∧ s.Every ≤ 1000) ∧ (0 ≤ s.Since ∧ s.Since ≤ 1000) ∧ (0 ≤ s.Reach ∧ s.Reach ≤ 4)
     ·
      rw [Xcq (by simp; omega), decide_eq_true h3, Xsv _ _ h1 h2, Xah, Xw0]
      cases s.Has with
      | true => rfl
      | false =>
       rw [Xgr]
       congr 1
       rw [Bool.eq_iff_iff]; simp
     ·
      rw [Xf7 (by simp; omega), decide_eq_false h3]; simp
    ·
     rw [Xf7 (by simp; omega), decide_eq_false hf]; simp
 ·
  rw [Xf7 (by simpa using ht), Xah, Xhf, decide_eq_false ht]; simp
theorem Xgc (l : List Int) (hl : l.length ≤ 9223372036854775806) : Xde l l = some true := by
 unfold Xde
 rw [Xcq (by simp), Xnj l.length (f := Xcg l l) (by
  intro i hi
  unfold Xcg
  rw [syA, rqA, rqA, Xcq (by simp), wkA]
  rfl) (by unfold Xcg; rw [snA])]
 rfl
def Xtw (k : Int) : List Int → List Int
 | [] => []
 | _ :: r => k :: Xtw (k + 1) r
theorem Xge (l : List Int) (k : Int) (h0 : 0 < k) (h1 : k ≤ 1000000000) (hl : l.length ≤ 100000000) : Xb8 l k = some (k + l.length, Xtw k l) := by
 unfold Xb8
 have key : ∀ (r a : List Int) (j : Int), 0 < j → j + r.length ≤ 2000000000 → a.length + r.length ≤ 100000000 → loop Xbt (j, (a.length : Int), a ++ r) = some (j + r.length, a ++ Xtw j r) := by
  intro r
  induction r with
  | nil =>
   intro a j hj1 hj2 hl
   refine Xgp ?_
   unfold Xbt
   simp only [List.append_nil]
   rw [snA]
   simp [Xtw]
  | cons p r ih =>
   intro a j hj1 hj2 hl
   simp only [List.length_cons] at hj2 hl ⊢
   have hcl : ∀ x : Int, (a ++ x :: r).length = a.length + (r.length + 1) := fun x => by simp
   refine lgo (y := (j + 1, ((a ++ [j]).length : Int), (a ++ [j]) ++ r)) ?_ ?_
   ·
    unfold Xbt
    simp only [Int.toNat_natCast, Xke, hcl]
    rw [syA, rqA, rqA, wkA (e := j + 1), wkA]
    simp
   ·
    rw [ih _ (j + 1) (by omega) (by omega) (by simp; omega)]
    simp only [Xtw, List.append_assoc, List.singleton_append]
    congr 2
    omega
 have := key l [] k h0 (by omega) (by simp; omega)
 simp only [List.length_nil, List.nil_append] at this
 rw [show ((k, 0, l) : Int × Int × List Int) = (k, ((0 : Nat) : Int), l) from rfl, this]
 rfl
theorem Xmw (s : Seq) (h1 : s.Cols.length ≤ 9223372036854775806) (h2 : s.Rows.length ≤ 9223372036854775806) : Xfp s s = some true := by
 unfold Xfp
 simp only [Xgc _ h1, Xgc _ h2, Xah, bne_self_eq_false, Xgr, Bool.not_true]
theorem Xmy (s : Seq) (k : Int) (h0 : 0 < k) (h1 : k ≤ 100000000) (hc : s.Cols.length ≤ 100000000) (hr : s.Rows.length ≤ 100000000) : Xdx s k = some (k + s.Cols.length + s.Rows.length, (⟨s.Level, s.Bits, Xtw k s.Cols, Xtw (k + s.Cols.length) s.Rows⟩ : Seq)) := by
 unfold Xdx
 rw [Xge _ _ h0 (by omega) hc, Xah, Xge _ _ (by omega) (by omega) hr, Xah]
theorem Xms (p : Par) : Xfn p p = some true := by
 unfold Xfn
 simp only [bne_self_eq_false, Xgr, beq_self_eq_true, Bool.not_true]
theorem Xk5 (p : Rate) : Xep p p = some true := by
 unfold Xep
 simp only [bne_self_eq_false, Xgr]
theorem Xmt (p : Pic) : Xfo p p = some true := by
 unfold Xfo
 simp only [bne_self_eq_false, Xgr, beq_self_eq_true, Bool.not_true]
theorem Xi0 (s : Source) (h1 : s.Seq.Cols.length ≤ 9223372036854775806) (h2 : s.Seq.Rows.length ≤ 9223372036854775806) : Xc4 s s = some true := by
 unfold Xc4
 simp only [Xmw _ h1 h2, Xms, Xk5, Xmt, Xah, bne_self_eq_false, Xgr, beq_self_eq_true, Bool.not_true]
theorem Xar (a b : List Int) : strOfNums a ++ strOfNums b = strOfNums (a ++ b) := by
 unfold strOfNums
 rw [List.map_append]
 apply ByteArray.ext
 simp
theorem Xzf : (⟨#[]⟩ : ByteArray) = strOfNums [] := rfl
def Xyw (l : List Int) : Prop := ∀ x ∈ l, 0 ≤ x ∧ x ≤ 255
theorem Xxy (l : List Int) (h : Xyw l) : Xda (strOfNums l) = l := by
 unfold Xda
 rw [strOfNums_data, List.map_map]
 have : ∀ x ∈ l, ((fun b : UInt8 => (b.toNat : Int)) ∘ fun n : Int => UInt8.ofNat n.toNat) x = x := by
  intro x hx
  have := h x hx
  simp only [Function.comp_apply, UInt8.toNat_ofNat']
  omega
 rw [List.map_congr_left this, List.map_id']
theorem Xwb (l : List Int) (h : Xyw l) (i : Nat) (hi : i < l.length) : Xw9 (strOfNums l) (i : Int) = l.getD i 0 := by
 unfold Xw9
 rw [dif_pos (by rw [Int.toNat_natCast, strOfNums_size]; exact hi)]
 have hx := h l[i] (List.getElem_mem hi)
 rw [Xq0 l i hi]
 show ((((l.map fun n => UInt8.ofNat n.toNat).toArray)[(i : Int).toNat]'(by simpa using hi)).toNat : Int) = _
 simp only [Int.toNat_natCast, List.getElem_toArray, List.getElem_map, UInt8.toNat_ofNat']
 omega
theorem Yav (y : Int) : IntKind.wrap .i64 (BitVec.ofInt (IntKind.bits .i64) y &&& BitVec.ofInt (IntKind.bits .i64) 1).toNat = y % 2 := by
 have h : (BitVec.ofInt 64 y &&& BitVec.ofInt 64 1).toNat = (y % 2).toNat := by
  rw [BitVec.toNat_and]
  have e1 : (BitVec.ofInt 64 1).toNat = 1 := by decide
  rw [e1, Nat.and_one_is_mod, BitVec.toNat_ofInt]
  omega
 show IntKind.wrap .i64 ((BitVec.ofInt 64 y &&& BitVec.ofInt 64 1).toNat : Int) = _
 rw [h, ← Xha, wkA]
 omega
def Xqf : Nat → Int → List Int
 | 0, _ => []
 | w + 1, n => Xqf w (n / 2) ++ [48 + n % 2]
theorem Xbo : ∀ (w : Nat) (n : Int), (Xqf w n).length = w
 | 0, _ => rfl
 | w + 1, n => by rw [Xqf, List.length_append, Xbo w]; rfl
def Xil (l : List Int) : Prop := ∀ x ∈ l, x = 48 ∨ x = 49
theorem Xaw {a b : List Int} (ha : Xil a) (hb : Xil b) : Xil (a ++ b) := fun x hx => (List.mem_append.1 hx).elim (ha x) (hb x)
theorem Xub (n : Nat) : Xil (List.replicate n 48) := fun x hx => .inl (List.eq_of_mem_replicate hx)
theorem Xir {l : List Int} (h : Xil l) : Xyw l := fun x hx => by rcases h x hx with e | e <;> omega
theorem Xqt : Xil [] := fun x hx => by simp at hx
theorem Xqy : ∀ (w : Nat) (n : Int), Xil (Xqf w n)
 | 0, _ => Xqt
 | w + 1, n => Xaw (Xqy w (n / 2)) (fun x hx => by rw [List.mem_singleton.1 hx]; omega)
theorem Xvq (w : Nat) : ∀ (k : Nat) (n : Int) (s : List Int), 0 ≤ n → n ≤ 9223372036854775807 → k + s.length ≤ 100000 → loop Xc1 (n, (k : Int) - 1, List.replicate k 0 ++ s) = some (Xqf k n ++ s) := by
 intro k
 induction k with
 | zero =>
  intro n s h0 h1 hl
  refine Xgp ?_
  unfold Xc1
  simp only
  rw [snA]
  simp [Xqf]
 | succ k ih =>
  intro n s h0 h1 hl
  have e1 : List.replicate (k + 1) (0 : Int) ++ s = List.replicate k 0 ++ 0 :: s := by rw [List.replicate_succ', List.append_assoc]; rfl
  have e2 := Xke (List.replicate k (0 : Int)) 0 (48 + n % 2) s
  rw [List.length_replicate] at e2
  refine lgo (y := (n / 2, (k : Int) - 1, List.replicate k 0 ++ (48 + n % 2) :: s)) ?_ ?_
  ·
   unfold Xc1
   have e3 : (((k + 1 : Nat) : Int) - 1).toNat = k := by omega
   simp only [e1, e3]
   rw [syA, Xbb (by simp; omega), Xbb (by simp), Xbb (by decide), Yav, wkA (e := 48 + n % 2), w8 (by omega) (by omega), e2, wkA]
   rw [show ((k + 1 : Nat) : Int) - 1 - 1 = (k : Int) - 1 by omega]
   rfl
  ·
   rw [ih (n / 2) ((48 + n % 2) :: s) (by omega) (by omega) (by simp; omega), Xqf, List.append_assoc]; rfl
theorem Xf3 (n : Int) (w : Nat) (h0 : 0 ≤ n) (h1 : n ≤ 9223372036854775807) (hw : w ≤ 1000) : Xdd n (w : Int) = some (strOfNums (Xqf w n)) := by
 unfold Xdd
 rw [rqA, wkA, Int.toNat_natCast]
 have := Xvq w w n [] h0 h1 (by simp; omega)
 rw [List.append_nil, List.append_nil] at this
 rw [this, Xah]
theorem Xxr : ∀ (k : Nat) (n : Int) (s : List Int), 0 ≤ n → n ≤ 9223372036854775807 → k + s.length ≤ 100000 → loop Xcj (n, (k : Int) - 1, List.replicate k 0 ++ s) = some (Xqf k n ++ s) := by
 intro k
 induction k with
 | zero =>
  intro n s h0 h1 hl
  refine Xgp ?_
  unfold Xcj
  simp only
  rw [snA]
  simp [Xqf]
 | succ k ih =>
  intro n s h0 h1 hl
  have e1 : List.replicate (k + 1) (0 : Int) ++ s = List.replicate k 0 ++ 0 :: s := by rw [List.replicate_succ', List.append_assoc]; rfl
  have e2 := Xke (List.replicate k (0 : Int)) 0 (48 + n % 2) s
  rw [List.length_replicate] at e2
  refine lgo (y := (n / 2, (k : Int) - 1, List.replicate k 0 ++ (48 + n % 2) :: s)) ?_ ?_
  ·
   unfold Xcj
   have e3 : (((k + 1 : Nat) : Int) - 1).toNat = k := by omega
   simp only [e1, e3]
   rw [syA, Xbb (by decide), Xbb (by simp; omega), Xbb (by simp), Xbb (by decide), Xg9 h0, Xje h0, wkA (e := 48 + n % 2), w8 (by omega) (by omega), e2, wkA, wkA]
   rw [show ((k + 1 : Nat) : Int) - 1 - 1 = (k : Int) - 1 by omega]
  ·
   rw [ih (n / 2) ((48 + n % 2) :: s) (by omega) (by omega) (by simp; omega), Xqf, List.append_assoc]; rfl
theorem Xhw (n : Int) (w : Nat) (h0 : 0 ≤ n) (h1 : n ≤ 9223372036854775807) (hw : w ≤ 1000) : Xdn n (w : Int) = some (strOfNums (Xqf w n)) := by
 unfold Xdn
 rw [rqA, wkA, Int.toNat_natCast]
 have := Xxr w n [] h0 h1 (by simp; omega)
 rw [List.append_nil, List.append_nil] at this
 rw [this, Xah]
def Xlw (m : Nat) : Nat := if h : m = 0 then 0 else Xlw (m / 2) + 1
termination_by m
decreasing_by omega
def Xvz (m : Nat) : List Int := if h : m = 0 then [] else Xvz (m / 2) ++ [48 + ((m % 2 : Nat) : Int)]
termination_by m
decreasing_by omega
theorem Xua (m : Nat) : (Xvz m).length = Xlw m := by
 induction m using Nat.strongRecOn with
 | _ m ih =>
  rw [Xvz, Xlw]
  by_cases h : m = 0
  ·
   rw [dif_pos h, dif_pos h]; rfl
  ·
   rw [dif_neg h, dif_neg h, List.length_append, ih (m / 2) (by omega)]; rfl
theorem Xtq {m j : Nat} (h : m < 2 ^ j) : Xlw m ≤ j := by
 induction j generalizing m with
 | zero => rw [Xlw, dif_pos (by simp at h; omega)]; omega
 | succ j ih =>
  rw [Xlw]
  split
  ·
   omega
  ·
   have := ih (m := m / 2) (by rw [Nat.pow_succ] at h; omega)
   omega
theorem Xqx {m : Nat} (h : 0 < m) : 1 ≤ Xlw m := by rw [Xlw, dif_neg (by omega)]; omega
theorem Xxk (m : Nat) : Xil (Xvz m) := by
 induction m using Nat.strongRecOn with
 | _ m ih =>
  rw [Xvz]
  by_cases h : m = 0
  ·
   rw [dif_pos h]; exact Xqt
  ·
   rw [dif_neg h]; exact Xaw (ih (m / 2) (by omega)) (fun x hx => by rw [List.mem_singleton.1 hx]; omega)
theorem Xxq (z m : Nat) : Xqf (Xlw m + z) m = List.replicate z 48 ++ Xvz m := by
 induction m using Nat.strongRecOn with
 | _ m ih =>
  rw [Xvz, Xlw]
  by_cases h : m = 0
  ·
   rw [dif_pos h, dif_pos h, h, List.append_nil, Nat.zero_add]
   clear ih h
   induction z with
   | zero => rfl
   | succ z iz => rw [Xqf, show ((0 : Nat) : Int) / 2 = ((0 : Nat) : Int) from rfl, iz, List.replicate_succ']; rfl
  ·
   rw [dif_neg h, dif_neg h, show Xlw (m / 2) + 1 + z = Xlw (m / 2) + z + 1 by omega, Xqf, show (m : Int) / 2 = ((m / 2 : Nat) : Int) by omega, ih (m / 2) (by omega), List.append_assoc, show (m : Int) % 2 = ((m % 2 : Nat) : Int) by omega]
def ueL (n : Nat) : List Int := List.replicate (Xlw (n + 1) - 1) 48 ++ Xvz (n + 1)
theorem Xt5 (n : Nat) : Xil (ueL n) := Xaw (Xub _) (Xxk _)
theorem Xfg (n : Nat) (h : n ≤ 1000000) : (ueL n).length ≤ 39 ∧ 1 ≤ (ueL n).length := by
 unfold ueL
 rw [List.length_append, List.length_replicate, Xua]
 have := Xtq (m := n + 1) (j := 20) (by omega)
 have := Xqx (m := n + 1) (by omega)
 omega
theorem Xoh : ∀ (m : Nat) (k : Int), 0 ≤ k → k ≤ 1000 → m ≤ 9223372036854775807 → loop Xax ((m : Int), k) = some (k + Xlw m) := by
 have main : ∀ (j m : Nat) (k : Int), m < 2 ^ j → j ≤ 63 → 0 ≤ k → k + j ≤ 2000 → loop Xax ((m : Int), k) = some (k + Xlw m) := by
  intro j
  induction j with
  | zero =>
   intro m k hm _ _ _
   have : m = 0 := by simp at hm; omega
   subst this
   refine Xgp ?_
   unfold Xax
   simp only
   rw [snA, Xlw, dif_pos rfl]; simp
  | succ j ih =>
   intro m k hm hj h0 h1
   by_cases h : m = 0
   ·
    subst h
    refine Xgp ?_
    unfold Xax
    simp only
    rw [snA, Xlw, dif_pos rfl]; simp
   ·
    refine lgo (y := (((m / 2 : Nat) : Int), k + 1)) ?_ ?_
    ·
     unfold Xax
     simp only
     rw [syA, Xbb (by decide), wkA]
     show some (Lp.go ((m : Int) / 2, k + 1)) = _
     congr 3
    ·
     rw [ih (m / 2) (k + 1) (by rw [Nat.pow_succ] at hm; omega) (by omega) (by omega) (by omega), Xlw.eq_def m, dif_neg h]
     congr 1; omega
 intro m k h0 h1 hm
 exact main 63 m k (by omega) (by omega) h0 (by omega)
theorem Xjy (n : Nat) (h : n ≤ 1000000) : Xh6 (n : Int) = some (strOfNums (ueL n)) := by
 unfold Xh6 Xdq
 rw [wkA (e := (n : Int) + 1)]
 have := Xoh (n + 1) 0 (by omega) (by omega) (by omega)
 rw [show ((n + 1 : Nat) : Int) = (n : Int) + 1 by omega, Int.zero_add] at this
 rw [this, Xah, Xah]
 have h1 := Xtq (m := n + 1) (j := 20) (by omega)
 have h2 := Xqx (m := n + 1) (by omega)
 rw [wkA (e := 2 * (Xlw (n + 1) : Int)), wkA, show 2 * (Xlw (n + 1) : Int) - 1 = ((Xlw (n + 1) + (Xlw (n + 1) - 1) : Nat) : Int) by omega, Xf3 _ _ (by omega) (by omega) (by omega), Xah,
  show (n : Int) + 1 = ((n + 1 : Nat) : Int) by omega, Xxq]
 rfl
theorem Xnw (n : Nat) (x : Int) (h : n ≤ 1000000000) : Xd0 (n : Int) x = some (strOfNums (List.replicate n x)) := by
 unfold Xd0
 rw [rqA, Int.toNat_natCast]
 have key : ∀ (k a : Nat), k + a = n → loop (Xb5 (n : Int) x) ((a : Int), List.replicate a x ++ List.replicate k 0) = some (List.replicate n x) := by
  intro k
  induction k with
  | zero =>
   intro a ha
   refine Xgp ?_
   unfold Xb5
   simp only
   rw [snA]
   simp; omega
  | succ k ih =>
   intro a ha
   have e2 := Xke (List.replicate a x) 0 x (List.replicate k 0)
   rw [List.length_replicate] at e2
   refine lgo (y := (((a + 1 : Nat) : Int), List.replicate (a + 1) x ++ List.replicate k 0)) ?_ (ih (a + 1) (by omega))
   unfold Xb5
   simp only [List.replicate_succ (n := k), Int.toNat_natCast]
   rw [syA, Xbb (by simp; omega), Xbb (by simp), e2, wkA, List.replicate_succ' (n := a), List.append_assoc]
   rfl
 have := key n 0 rfl
 rw [List.replicate_zero, List.nil_append] at this
 exact Xwa this
theorem Xga (n : Nat) (h : n ≤ 1000000) : Xdo (n : Int) = some (strOfNums (ueL n)) := by
 have main : ∀ (j m : Nat) (s : List Int), m < 2 ^ j → j ≤ 63 → s.length + j ≤ 1000 → loop Xcb ((m : Int), strOfNums s) = some (strOfNums (Xvz m ++ s)) := by
  intro j
  induction j with
  | zero =>
   intro m s hm _ _
   have : m = 0 := by simp at hm; omega
   subst this
   refine Xgp ?_
   unfold Xcb
   simp only
   rw [snA, Xvz, dif_pos rfl]; rfl
  | succ j ih =>
   intro m s hm hj hl
   by_cases h : m = 0
   ·
    subst h
    refine Xgp ?_
    unfold Xcb
    simp only
    rw [snA, Xvz, dif_pos rfl]; rfl
   ·
    have hlt : (m : Int) < 2 ^ (j + 1) := by exact_mod_cast hm
    have hle : (2 : Int) ^ (j + 1) ≤ 2 ^ 63 := by
     have := Nat.pow_le_pow_right (n := 2) (by omega) hj
     exact_mod_cast this
    have hbd : (m : Int) < 9223372036854775808 := Int.lt_of_lt_of_le hlt (by simpa using hle)
    refine lgo (y := (((m / 2 : Nat) : Int), strOfNums ((48 + ((m % 2 : Nat) : Int)) :: s))) ?_ ?_
    ·
     unfold Xcb
     simp only
     rw [syA, Xbb (by decide), Xg9 (by omega), Xje (by omega), wkA (e := 48 + (m : Int) % 2), w8 (by omega) (by omega), Xbb (by simp only [strOfNums_size, List.length_singleton]; omega), Xbb (by decide), wkA, Xar]
     congr 3
    ·
     rw [ih (m / 2) _ (by rw [Nat.pow_succ] at hm; omega) (by omega) (by simp; omega)]
     conv => rhs; rw [Xvz, dif_neg h]
     rw [List.append_assoc]; rfl
 unfold Xdo
 have h1 := Xtq (m := n + 1) (j := 20) (by omega)
 have h2 := Xqx (m := n + 1) (by omega)
 rw [wkA (e := (n : Int) + 1), Xzf, show (n : Int) + 1 = ((n + 1 : Nat) : Int) by omega, main 63 (n + 1) [] (by omega) (by omega) (by simp), Xah, List.append_nil, strOfNums_size, Xua, wkA, show (Xlw (n + 1) : Int) - 1 = ((Xlw (n + 1) - 1 : Nat) : Int) by omega, Xnw _ _ (by omega), Xah,
  Xbb (by simp only [strOfNums_size, List.length_replicate]; omega), Xar]
 rfl
theorem Xxl (x : Int) (h : x = 48 ∨ x = 49) : ((x != 48) && (x != 49)) = false := by rcases h with rfl | rfl <;> rfl
theorem Xu0 (l : List Int) (hl : Xil l) (hn : l.length ≤ 9223372036854775806) (f : Int → Option (Lp Int (Ou Unit Bool)))
  (h : ∀ i : Nat, i < l.length → f (i : Int) = sel (((l.getD i 0) != 48) && ((l.getD i 0) != 49)) (some (.done (.ret false))) (some (.go ((i + 1 : Nat) : Int)))) (h0 : f (l.length : Int) = some (.done (.out ()))) : loop f 0 = some (.out ()) :=
 Xnj l.length (fun i hi => by rw [h i hi, Xxl _ (by rw [Xq0 l i hi]; exact hl _ (List.getElem_mem hi)), Xgr]) h0
theorem Xp2 (l : List Int) (hl : Xil l) (hn : l.length ≤ 9223372036854775806) : Xey (strOfNums l) = some true := by
 unfold Xey
 rw [Xu0 l hl hn (Xck (strOfNums l)) (fun i hi => by
  unfold Xck
  rw [strOfNums_size, Xwb l (Xir hl) i hi, syA, rqA, rqA, Xet, Xah, wkA]; rfl) (by
  unfold Xck; rw [strOfNums_size, snA])]
 rfl
theorem Xsb (l : List Int) (hl : Xil l) (hn : l.length ≤ 400000) : Xfx (strOfNums l) = some true := by
 unfold Xfx
 rw [strOfNums_size, syA, Xp2 l hl (by omega), Xah, Xah]
theorem Xq4 (l : List Int) (hl : Xil l) (hn : l.length ≤ 400000) : Xfk (strOfNums l) = some true := by
 unfold Xfk
 rw [strOfNums_size, snA, Xu0 l hl (by omega) (Xcx (strOfNums l)) (fun i hi => by
  unfold Xcx
  rw [strOfNums_size, Xwb l (Xir hl) i hi, syA, rqA, rqA, Xet, Xah, wkA]; rfl) (by
  unfold Xcx; rw [strOfNums_size, snA])]
 rfl
def Xim (l : List Int) : Int := l.foldl (fun x b => 2 * x + b - 48) 0
def Xcc : Nat → List Int → List Int
 | 0, _ => []
 | n + 1, l => Xim (l.take 8) :: Xcc n (l.drop 8)
theorem Xg1 : ∀ (n : Nat) (l : List Int), (Xcc n l).length = n
 | 0, _ => rfl
 | n + 1, l => by rw [Xcc, List.length_cons, Xg1 n]
def Xx0 (l : List Int) : List Int := Xcc (l.length / 8 + 1) (l ++ 49 :: List.replicate (8 * (l.length / 8 + 1) - l.length - 1) 48)
theorem Xzt (l : List Int) : ∀ x : Int, l.foldl (fun x b => 2 * x + b - 48) x = x * 2 ^ l.length + Xim l := by
 induction l with
 | nil => intro x; simp [Xim]
 | cons b l ih =>
  intro x
  unfold Xim
  rw [List.foldl_cons, List.foldl_cons, ih, ih (2 * 0 + b - 48), List.length_cons, Int.pow_succ]
  have e1 : (2 * x + b - 48) * 2 ^ l.length = 2 * (x * 2 ^ l.length) + (b - 48) * 2 ^ l.length := by
   rw [show 2 * x + b - 48 = 2 * x + (b - 48) by omega, Int.add_mul, Int.mul_assoc]
  have e2 : x * (2 ^ l.length * 2) = 2 * (x * 2 ^ l.length) := by rw [← Int.mul_assoc, Int.mul_comm]
  rw [e1, e2, show (2 : Int) * 0 + b - 48 = b - 48 by omega]
  omega
theorem Xkn (a b : List Int) : Xim (a ++ b) = Xim a * 2 ^ b.length + Xim b := by
 show (a ++ b).foldl _ 0 = _
 rw [List.foldl_append]
 exact Xzt b (Xim a)
theorem Xt6 (z : Nat) : Xim (List.replicate z 48) = 0 := by
 induction z with
 | zero => rfl
 | succ z ih => rw [List.replicate_succ', Xkn, ih]; rfl
theorem Xn9 {l : List Int} (h : Xil l) : 0 ≤ Xim l ∧ Xim l < 2 ^ l.length := by
 induction l with
 | nil => simp [Xim]
 | cons b l ih =>
  have h1 := ih (fun x hx => h x (by simp [hx]))
  have h2 := h b (by simp)
  rw [show b :: l = [b] ++ l from rfl, Xkn, List.length_append, Int.pow_add, show Xim [b] = b - 48 by simp [Xim]]
  have : (2 : Int) ^ [b].length = 2 := rfl
  rw [this]
  rcases h2 with rfl | rfl <;> omega
theorem Xz9 : ∀ (x : Fin 256) (k : Fin 8), x.val % 2 ^ (8 - k.val) = 0 → (BitVec.ofNat 8 x.val ||| BitVec.ofNat 8 (128 / 2 ^ k.val)).toNat = x.val + 2 ^ (7 - k.val) := by decide +kernel
theorem Yaa (x : Int) (k : Nat) (h0 : 0 ≤ x) (h1 : x ≤ 255) (hk : k < 8) (hx : x % 2 ^ (8 - k) = 0) : IntKind.wrap .u8 (BitVec.ofInt (IntKind.bits .u8) x ||| BitVec.ofInt (IntKind.bits .u8) ((128 : Int) / 2 ^ min k (IntKind.bits .u8))).toNat = x + 2 ^ (7 - k) := by
 obtain ⟨n, rfl⟩ : ∃ n : Nat, x = n := ⟨x.toNat, by omega⟩
 have hm : min k (IntKind.bits .u8) = k := by show min k 8 = k; omega
 have hn : n % 2 ^ (8 - k) = 0 := by exact_mod_cast hx
 have := Xz9 ⟨n, by omega⟩ ⟨k, hk⟩ hn
 simp only at this
 rw [hm]
 have e1 : BitVec.ofInt 8 ((128 : Int) / 2 ^ k) = BitVec.ofNat 8 (128 / 2 ^ k) := by
  rw [show ((128 : Int) / 2 ^ k) = ((128 / 2 ^ k : Nat) : Int) by push_cast; rfl, BitVec.ofInt_natCast]
 have e2 : BitVec.ofInt 8 (n : Int) = BitVec.ofNat 8 n := BitVec.ofInt_natCast ..
 show IntKind.wrap .u8 ((BitVec.ofInt 8 (n : Int) ||| BitVec.ofInt 8 ((128 : Int) / 2 ^ k)).toNat : Int) = _
 rw [e1, e2, this, ← Xha]
 have hp : n + 2 ^ (7 - k) ≤ 255 := by
  have : n + 2 ^ (7 - k) < 256 := by rw [← this]; exact (BitVec.ofNat 8 n ||| BitVec.ofNat 8 (128 / 2 ^ k)).isLt
  omega
 rw [w8 (by omega) (by omega)]
 push_cast; rfl
theorem Xjk : ∀ (m : Nat) (L : List Int), Xil L → L.length < 8 * m → Xcc m (L ++ 49 :: List.replicate (8 * m - L.length - 1) 48) = (Xcc m (L ++ List.replicate (8 * m - L.length) 48)).set (L.length / 8) ((Xcc m (L ++ List.replicate (8 * m - L.length) 48)).getD (L.length / 8) 0 + 2 ^ (7 - L.length % 8)) ∧
  (Xcc m (L ++ List.replicate (8 * m - L.length) 48)).getD (L.length / 8) 0 % 2 ^ (8 - L.length % 8) = 0 ∧ 0 ≤ (Xcc m (L ++ List.replicate (8 * m - L.length) 48)).getD (L.length / 8) 0 ∧ (Xcc m (L ++ List.replicate (8 * m - L.length) 48)).getD (L.length / 8) 0 ≤ 255
 | 0, L, _, h => by omega
 | m + 1, L, hb, h => by
  by_cases h8 : L.length < 8
  ·
   have e0 : L.length / 8 = 0 := by omega
   have em : L.length % 8 = L.length := by omega
   have t1 : (L ++ List.replicate (8 * (m + 1) - L.length) 48).take 8 = L ++ List.replicate (8 - L.length) 48 := by
    rw [List.take_append, List.take_of_length_le (by omega), List.take_replicate]; congr 2; omega
   have d1 : (L ++ List.replicate (8 * (m + 1) - L.length) 48).drop 8 = List.replicate (8 * m) (48 : Int) := by
    rw [List.drop_append, List.drop_eq_nil_of_le (by omega), List.nil_append, List.drop_replicate]; congr 1; omega
   have t2 : (L ++ 49 :: List.replicate (8 * (m + 1) - L.length - 1) 48).take 8 = L ++ 49 :: List.replicate (8 - L.length - 1) 48 := by
    rw [List.take_append, List.take_of_length_le (by omega), show 8 - L.length = (8 - L.length - 1) + 1 by omega, List.take_succ_cons, List.take_replicate]; congr 3; omega
   have d2 : (L ++ 49 :: List.replicate (8 * (m + 1) - L.length - 1) 48).drop 8 = List.replicate (8 * m) (48 : Int) := by
    rw [List.drop_append, List.drop_eq_nil_of_le (by omega), List.nil_append, show 8 - L.length = (8 - L.length - 1) + 1 by omega, List.drop_succ_cons, List.drop_replicate]; congr 1; omega
   have r := Xn9 hb
   have v1 : Xim (L ++ List.replicate (8 - L.length) 48) = Xim L * 2 ^ (8 - L.length) := by rw [Xkn, Xt6, List.length_replicate, Int.add_zero]
   have v2 : Xim (L ++ 49 :: List.replicate (8 - L.length - 1) 48) = Xim L * 2 ^ (8 - L.length) + 2 ^ (7 - L.length) := by
    rw [Xkn, show (49 : Int) :: List.replicate (8 - L.length - 1) 48 = [49] ++ List.replicate (8 - L.length - 1) 48 from rfl, Xkn, Xt6, Int.add_zero, List.length_append, List.length_replicate, show [(49 : Int)].length = 1 from rfl, show 1 + (8 - L.length - 1) = 8 - L.length by omega, show 8 - L.length - 1 = 7 - L.length by omega]
    show _ + Xim [49] * _ = _
    rw [show Xim [49] = 1 from rfl, Int.one_mul]
   rw [Xcc, Xcc, t1, d1, t2, d2, v1, v2, e0, em, List.getD_cons_zero, List.set_cons_zero]
   refine ⟨rfl, Int.mul_emod_left _ _, Int.mul_nonneg r.1 (Int.pow_nonneg (by decide)), ?_⟩
   have : (Xim L + 1) * 2 ^ (8 - L.length) ≤ 2 ^ L.length * 2 ^ (8 - L.length) := Int.mul_le_mul_of_nonneg_right (by omega) (Int.pow_nonneg (by decide))
   rw [← Int.pow_add, show L.length + (8 - L.length) = 8 by omega, Int.add_mul, Int.one_mul] at this
   have hp : (1 : Int) ≤ 2 ^ (8 - L.length) := Int.pow_pos (by decide)
   have : (2 : Int) ^ 8 = 256 := by decide
   omega
  ·
   have hsp : L = L.take 8 ++ L.drop 8 := (List.take_append_drop 8 L).symm
   have hl8 : (L.take 8).length = 8 := by rw [List.length_take]; omega
   have hd : (L.drop 8).length = L.length - 8 := by rw [List.length_drop]
   have ih := Xjk m (L.drop 8) (fun x hx => hb x (List.mem_of_mem_drop hx)) (by omega)
   rw [hd] at ih
   have tk : ∀ s : List Int, (L ++ s).take 8 = L.take 8 := fun s => by rw [List.take_append, show 8 - L.length = 0 by omega, List.take_zero, List.append_nil]
   have dr : ∀ s : List Int, (L ++ s).drop 8 = L.drop 8 ++ s := fun s => by rw [List.drop_append, show 8 - L.length = 0 by omega, List.drop_zero]
   rw [Xcc, Xcc, tk, tk, dr, dr, show L.length / 8 = (L.length - 8) / 8 + 1 by omega, List.getD_cons_succ, List.set_cons_succ, show L.length % 8 = (L.length - 8) % 8 by omega, show 8 * (m + 1) - L.length = 8 * m - (L.length - 8) by omega]
   exact ⟨by rw [ih.1], ih.2⟩
theorem Xvg (m : Nat) : Xcc m (List.replicate (8 * m) 48) = List.replicate m 0 := by
 induction m with
 | zero => rfl
 | succ m ih =>
  rw [Xcc, List.take_replicate, List.drop_replicate, show 8 * (m + 1) - 8 = 8 * m by omega, ih, Xt6, List.replicate_succ]
theorem Xvf (m : Nat) (L : List Int) (h : L.length < 8 * m) : L ++ 48 :: List.replicate (8 * m - L.length - 1) 48 = L ++ List.replicate (8 * m - L.length) 48 := by
 congr 1
 rw [← List.replicate_succ]; congr 1; omega
theorem Xk0 (l : List Int) (hl : Xil l) (hn : l.length ≤ 400000) : Xcw (strOfNums l) = some (strOfNums (Xx0 l), true) := by
 have hm' : maxLen = 9223372036854775807 := rfl
 unfold Xcw
 rw [Xq4 l hl hn, Xah, Xni, Xhf, Xbb (by decide), strOfNums_size, Xje (by omega), show (l.length : Int) / 8 = ((l.length / 8 : Nat) : Int) by omega, wkA (e := ((l.length / 8 : Nat) : Int)), wkA (e := ((l.length / 8 : Nat) : Int) + 1), rqA,
  show (((l.length / 8 : Nat) : Int) + 1).toNat = l.length / 8 + 1 by omega]
 generalize hm : l.length / 8 + 1 = m
 have key : ∀ (r a : List Int), l = a ++ r → loop (Xbs (strOfNums l)) ((a.length : Int), Xcc m (a ++ List.replicate (8 * m - a.length) 48)) = some (Xcc m (l ++ List.replicate (8 * m - l.length) 48)) := by
  intro r
  induction r with
  | nil =>
   intro a ha
   rw [List.append_nil] at ha
   rw [← ha]
   refine Xgp ?_
   unfold Xbs
   simp only
   rw [strOfNums_size, snA]
  | cons x r ih =>
   intro a ha
   have hlen : a.length < l.length := by rw [ha]; simp
   have hx : l.getD a.length 0 = x := by rw [ha]; exact Xe7 a x _ r
   have hb : x = 48 ∨ x = 49 := hl x (by rw [ha]; simp)
   have ha8 : a.length < 8 * m := by omega
   have hab : Xil a := fun y hy => hl y (by rw [ha]; simp [hy])
   obtain ⟨c1, c2, c3, c4⟩ := Xjk m a hab ha8
   have hcl := Xg1 m (a ++ List.replicate (8 * m - a.length) 48)
   have hnext := ih (a ++ [x]) (by rw [ha]; simp)
   rw [List.length_append, List.length_singleton] at hnext
   refine lgo (y := (((a.length + 1 : Nat) : Int), Xcc m (a ++ [x] ++ List.replicate (8 * m - (a.length + 1)) 48))) ?_ hnext
   unfold Xbs
   simp only
   rw [strOfNums_size, syA, Xwb l (Xir hl) _ hlen, hx, wkA (e := (a.length : Int) + 1), Xje (by omega), Xg9 (by omega), show (a.length : Int) / 8 = ((a.length / 8 : Nat) : Int) by omega, show (a.length : Int) % 8 = ((a.length % 8 : Nat) : Int) by omega,
    wkA (e := ((a.length / 8 : Nat) : Int)), Int.toNat_natCast, Int.toNat_natCast, rqA]
   rw [List.append_assoc, List.singleton_append, Nat.sub_add_eq]
   rcases hb with rfl | rfl
   ·
    rw [Xcq (by decide), Xah, Xvf m a ha8]; rfl
   ·
    rw [Xf7 (by decide), Xbb (by decide), rqA, rqA, Xbb (by decide), rqA, rqA, rqA, Xah, Yaa _ _ c3 c4 (by omega) c2, c1]; rfl
 have := key l [] rfl
 rw [List.nil_append, List.length_nil, Nat.sub_zero, Xvg] at this
 refine (Xwa this).trans ?_
 have hl8 : l.length < 8 * m := by omega
 obtain ⟨c1, c2, c3, c4⟩ := Xjk m l hl hl8
 have hcl := Xg1 m (l ++ List.replicate (8 * m - l.length) 48)
 rw [Xbb (by decide), rqA, Int.toNat_natCast, rqA, Xbb (by decide), Xg9 (by omega), rqA, rqA, rqA, show ((l.length : Int) % 8).toNat = l.length % 8 by omega, Yaa _ _ c3 c4 (by omega) c2, ← c1]
 unfold Xx0
 rw [hm]
theorem Xw6 (v : List Int) (i : Nat) (out : List Int) (c : List Int) (hc : (v.drop i).take 8 = c) (h8 : c.length = 8) (hb : Xil c) (hn : v.length ≤ 1000000) (hi : i + 8 ≤ v.length) : loop (Xa5 v ((i : Int), out)) (0, 0) = some (Xim c) := by
 have key : ∀ (r a : List Int), c = a ++ r → loop (Xa5 v ((i : Int), out)) (Xim a, (a.length : Int)) = some (Xim c) := by
  intro r
  induction r with
  | nil =>
   intro a ha
   rw [List.append_nil] at ha
   refine Xgp ?_
   unfold Xa5
   simp only
   rw [Xeu (by rw [← ha]; omega), ha]
  | cons x r ih =>
   intro a ha
   have hlen : a.length < 8 := by rw [← h8, ha]; simp
   have hx : v.getD (i + a.length) 0 = x := by
    have h1 : c.getD a.length 0 = x := by rw [ha]; exact Xe7 a x _ r
    rw [← h1, ← hc]
    rw [List.getD_eq_getElem?_getD, List.getD_eq_getElem?_getD, List.getElem?_take_of_lt hlen, List.getElem?_drop]
   have hab : Xil a := fun y hy => hb y (by rw [ha]; simp [hy])
   have hr := Xn9 hab
   have hp : (2 : Int) ^ a.length ≤ 2 ^ 8 := by
    have := Nat.pow_le_pow_right (n := 2) (by omega) (show a.length ≤ 8 by omega)
    exact_mod_cast this
   have h256 : (2 : Int) ^ 8 = 256 := by decide
   have hxb : x = 48 ∨ x = 49 := hb x (by rw [ha]; simp)
   have hnext := ih (a ++ [x]) (by rw [ha]; simp)
   rw [List.length_append, List.length_singleton] at hnext
   refine lgo (y := (Xim (a ++ [x]), ((a.length + 1 : Nat) : Int))) ?_ hnext
   unfold Xa5
   simp only
   rw [syA, wkA (e := (i : Int) + a.length), rqA, rqA, show ((i : Int) + (a.length : Int)).toNat = i + a.length by omega, hx, wkA (e := (a.length : Int) + 1), wkA (e := x), wkA (e := 2 * Xim a), wkA (e := 2 * Xim a + x), wkA,
    Xkn, show Xim [x] = x - 48 by simp [Xim], show [x].length = 1 from rfl, Int.pow_one]
   congr 4
   omega
 have := key c [] rfl
 exact this
theorem Xve (v : List Int) (hb : Xil v) (hn : v.length ≤ 1000000) : ∀ (m i : Nat) (out : List Int), i + 8 * m = v.length → out.length ≤ i → loop (Xbn v) ((i : Int), out) = some (out ++ Xcc m (v.drop i)) := by
 have hm' : maxLen = 9223372036854775807 := rfl
 intro m
 induction m with
 | zero =>
  intro i out hi _
  refine Xgp ?_
  unfold Xbn
  simp only
  rw [snA]; simp [Xcc]
 | succ m ih =>
  intro i out hi ho
  have hlen : ((v.drop i).take 8).length = 8 := by rw [List.length_take, List.length_drop]; omega
  have hcb : Xil ((v.drop i).take 8) := fun x hx => hb x (List.mem_of_mem_drop (List.mem_of_mem_take hx))
  have hr := Xn9 hcb
  rw [hlen, show (2 : Int) ^ 8 = 256 by decide] at hr
  refine lgo (y := (((i + 8 : Nat) : Int), out ++ [Xim ((v.drop i).take 8)])) ?_ ?_
  ·
   unfold Xbn
   simp only
   rw [syA, Xw6 v i out _ rfl hlen hcb hn (by omega), Xah, w8 (by omega) (by omega), Xbb (by simp only [List.length_singleton]; omega), wkA]
   rfl
  ·
   rw [ih (i + 8) _ (by omega) (by simp; omega), Xcc, List.drop_drop, List.append_assoc]; rfl
theorem Xlo (l : List Int) (hl : Xil l) (hn : l.length ≤ 400000) : Xc9 (strOfNums l) = some (strOfNums (Xx0 l)) := by
 have hm' : maxLen = 9223372036854775807 := rfl
 unfold Xc9
 rw [strOfNums_size, Xxy l (Xir hl), rqA, Xbb (by simp only [List.length_singleton]; omega)]
 have key : ∀ (z : Nat) (s : List Int), s.length ≤ 500000 → z < 8 → (s.length + z) % 8 = 0 → loop Xbv s = some (s ++ List.replicate z 48) := by
  intro z
  induction z with
  | zero =>
   intro s hs _ h8
   refine Xgp ?_
   unfold Xbv
   rw [Xbb (by decide), Xg9 (by omega), Xcq (by simp only [bne_eq_false_iff_eq]; omega)]; simp
  | succ z ih =>
   intro s hs hz h8
   refine lgo (y := s ++ [48]) ?_ ?_
   ·
    unfold Xbv
    rw [Xbb (by decide), Xg9 (by omega), Xf7 (by simp only [bne_iff_ne, ne_eq]; omega), Xbb (by simp only [List.length_singleton]; omega)]
   ·
    rw [ih (s ++ [48]) (by simp; omega) (by omega) (by simp; omega), List.append_assoc, List.replicate_succ]; rfl
 have hz : (l ++ [49] ++ List.replicate (8 * (l.length / 8 + 1) - l.length - 1) 48 : List Int).length = 8 * (l.length / 8 + 1) := by simp; omega
 have hvb : Xil (l ++ [49] ++ List.replicate (8 * (l.length / 8 + 1) - l.length - 1) 48) := Xaw (Xaw hl (fun x hx => .inr (List.mem_singleton.1 hx))) (Xub _)
 rw [key (8 * (l.length / 8 + 1) - l.length - 1) (l ++ [49]) (by simp; omega) (by omega) (by simp; omega), Xah]
 have := Xve _ hvb (by omega) (l.length / 8 + 1) 0 [] (by rw [hz]; omega) (by simp)
 rw [List.nil_append, List.drop_zero] at this
 rw [show (0 : Int) = ((0 : Nat) : Int) from rfl, this, Xah]
 unfold Xx0
 rw [List.append_assoc, List.singleton_append]
theorem Xuu (l : List Int) : (Xx0 l).length = l.length / 8 + 1 := Xg1 _ _
def Xks (k : Int) : Bool := k == 1 || (k == 5 || (k == 7 || k == 8))
theorem Xox (k : Int) : Xeo k = some (Xks k) := by
 unfold Xeo Xks
 simp only [Xu4, Xah]
theorem Xn4 (k : Int) : Xd1 k = some (Xks k) := by
 unfold Xd1 Xks
 simp only [Xu4, Xah]
theorem Xsx {k : Int} (h : Xks k = true) : 1 ≤ k ∧ k ≤ 8 := by
 unfold Xks at h
 simp only [Bool.or_eq_true, beq_iff_eq] at h
 omega
theorem Xhl (k : Int) (l : List Int) (hk : Xks k = true) (hl : Xil l) (hn : l.length ≤ 400000) : Xdc k (strOfNums l) = some (strOfNums (k :: Xx0 l), true) := by
 have := Xsx hk
 have hp := Xuu l
 unfold Xdc
 rw [Xk0 l hl hn, Xah, Xox, hk]
 simp only [Xhf, Xah, Bool.not_true, Xgr]
 rw [w8 (by omega) (by omega), Xbb (by simp only [strOfNums_size, List.length_singleton]; omega), Xar]; rfl
theorem Xhu (k : Int) (l : List Int) (hk : Xks k = true) (hl : Xil l) (hn : l.length ≤ 400000) : Xdm k (strOfNums l) = some (strOfNums (k :: Xx0 l), true) := by
 have := Xsx hk
 have hp := Xuu l
 unfold Xdm
 rw [Xn4, Xah, hk, Xhf, Xsb l hl hn, Xah, Xah, Bool.not_true, Xgr, Xlo l hl hn, Xah, w8 (by omega) (by omega), Xbb (by simp only [strOfNums_size, List.length_singleton]; omega), Xar]; rfl
def Xr2 (b : Bool) : List Int := if b = true then [49] else [48]
theorem Xnk (b : Bool) : Xil (Xr2 b) := by unfold Xr2; split <;> (intro x hx; rw [List.mem_singleton.1 hx]; simp)
theorem Xev (b : Bool) : (Xr2 b).length = 1 := by unfold Xr2; split <;> rfl
theorem Xgm (b : Bool) : Xfl b = some (strOfNums (Xr2 b)) := by cases b <;> rfl
theorem Xe0 (b : Bool) : Xcu b = some (strOfNums (Xr2 b)) := by cases b <;> rfl
def Xzv (p : Par) : List Int := Xqf 6 p.Qp ++ Xr2 p.Large ++ Xr2 p.Exact ++ Xr2 p.Confined
theorem Xuv (p : Par) : Xil (Xzv p) := Xaw (Xaw (Xaw (Xqy _ _) (Xnk _)) (Xnk _)) (Xnk _)
theorem Xuw (p : Par) : (Xzv p).length = 9 := by unfold Xzv; simp only [List.length_append, Xbo, Xev]
theorem Xux {p : Par} (h : Xlf p = true) : 0 ≤ p.Qp ∧ p.Qp ≤ 40 := by
 unfold Xlf at h; rw [Bool.and_eq_true, decide_eq_true_eq] at h; exact h.1
theorem Xol (p : Par) (h : Xlf p = true) : Xek p = some (strOfNums (Xzv p), true) := by
 have := Xux h
 unfold Xek
 rw [Xiv, Xah, h, Xcq (by rfl), show (6 : Int) = ((6 : Nat) : Int) from rfl, Xf3 _ 6 (by omega) (by omega) (by omega), Xah, Xgm, Xah, Xbb (by simp only [strOfNums_size, Xbo, Xev]; omega), Xgm, Xah, Xar, Xbb (by simp only [strOfNums_size, List.length_append, Xbo, Xev]; omega), Xgm, Xah, Xar, Xbb (by simp only [strOfNums_size, List.length_append, Xbo, Xev]; omega), Xar]
 rfl
theorem Xp6 (p : Par) (h : Xlf p = true) : Xe1 p = some (strOfNums (Xzv p)) := by
 have := Xux h
 unfold Xe1
 rw [show (6 : Int) = ((6 : Nat) : Int) from rfl, Xhw _ 6 (by omega) (by omega) (by omega), Xah, Xe0, Xah, Xbb (by simp only [strOfNums_size, Xbo, Xev]; omega), Xe0, Xah, Xar, Xbb (by simp only [strOfNums_size, List.length_append, Xbo, Xev]; omega), Xe0, Xah, Xar, Xbb (by simp only [strOfNums_size, List.length_append, Xbo, Xev]; omega), Xar]
 rfl
def Xxb : List Int → List Int
 | [] => []
 | x :: r => ueL x.toNat ++ Xxb r
theorem Xvb : ∀ l : List Int, Xil (Xxb l)
 | [] => Xqt
 | x :: r => Xaw (Xt5 _) (Xvb r)
theorem Xvc : ∀ {l : List Int}, l.all Xb1 = true → (Xxb l).length ≤ 39 * l.length
 | [], _ => by simp [Xxb]
 | x :: r, h => by
  rw [List.all_cons, Bool.and_eq_true] at h
  have h1 := Xvc h.2
  have h2 : 1 ≤ x ∧ x ≤ 8 := by simpa [Xb1] using h.1
  have := Xfg x.toNat (by omega)
  rw [Xxb, List.length_append, List.length_cons]
  omega
def Xs0 (l : List Int) : List Int := ueL l.length ++ Xxb l
def Xzd (s : Seq) : List Int := ueL s.Level.toNat ++ Xqf 4 s.Bits ++ Xs0 s.Cols ++ Xs0 s.Rows
theorem Xs1 (l : List Int) : Xil (Xs0 l) := Xaw (Xt5 _) (Xvb _)
theorem Xu5 (s : Seq) : Xil (Xzd s) := Xaw (Xaw (Xaw (Xt5 _) (Xqy _ _)) (Xs1 _)) (Xs1 _)
theorem Xft {l : List Int} (h : Xbh l = true) : (Xs0 l).length ≤ 195 := by
 have h1 := Xer h
 unfold Xbh at h
 rw [Bool.and_eq_true] at h
 have := Xvc h.2
 have := Xfg l.length (by omega)
 unfold Xs0; rw [List.length_append]; omega
theorem Xii {s : Seq} (h : Xfu s = true) : 1 ≤ s.Level ∧ s.Level ≤ 3 := by
 unfold Xfu at h
 rw [Bool.and_eq_true, decide_eq_true_eq] at h
 have := h.1
 unfold Xcs at this
 repeat' split at this
 all_goals omega
theorem Xu6 {s : Seq} (h : Xfu s = true) : (Xzd s).length ≤ 433 := by
 obtain ⟨h1, h2, _⟩ := Xb3 h
 have h3 := Xii h
 have := Xft h1
 have := Xft h2
 have := Xfg s.Level.toNat (by omega)
 unfold Xzd; simp only [List.length_append, Xbo]; omega
theorem Xkx (l : List Int) (ha : l.all Xb1 = true) (h4 : l.length ≤ 4) (f : (ByteArray × Int) → Option (Lp (ByteArray × Int) ByteArray))
  (h : ∀ (i : Nat) (s : List Int) (x : Int), i < l.length → s.length ≤ 1000 → l.getD i 0 = x → f (strOfNums s, (i : Int)) = some (.go (strOfNums (s ++ ueL x.toNat), ((i + 1 : Nat) : Int)))) (h0 : ∀ s, f (s, (l.length : Int)) = some (.done s)) (s : List Int) (hs : s.length ≤ 500) : loop f (strOfNums s, 0) = some (strOfNums (s ++ Xxb l)) := by
 have key : ∀ (r a : List Int) (s : List Int), l = a ++ r → s.length + 39 * r.length ≤ 800 → loop f (strOfNums s, (a.length : Int)) = some (strOfNums (s ++ Xxb r)) := by
  intro r
  induction r with
  | nil => intro a s ha _; rw [List.append_nil] at ha; rw [← ha, Xb0 (h0 _), Xxb, List.append_nil]
  | cons x r ih =>
   intro a s hl hsl
   have hlen : a.length < l.length := by rw [hl]; simp
   have hx : l.getD a.length 0 = x := by rw [hl]; exact Xe7 a x _ r
   have hxs : 1 ≤ x ∧ x ≤ 8 := by simpa [Xb1] using List.all_eq_true.1 ha x (by rw [hl]; simp)
   have := Xfg x.toNat (by omega)
   rw [List.length_cons] at hsl
   have hn := ih (a ++ [x]) (s ++ ueL x.toNat) (by rw [hl]; simp) (by rw [List.length_append]; omega)
   rw [List.length_append, List.length_singleton] at hn
   rw [Xd6 (h a.length s x hlen (by omega) hx), hn, Xxb, List.append_assoc]
 exact key l [] s rfl (by omega)
theorem Xgx (l : List Int) (h : Xbh l = true) : Xcv l = some (strOfNums (Xs0 l)) := by
 have h1 := Xer h
 have ha : l.all Xb1 = true := by unfold Xbh at h; rw [Bool.and_eq_true] at h; exact h.2
 have := Xfg l.length (by omega)
 unfold Xcv
 rw [Xga _ (by omega), Xah, Xkx l ha h1.2 (Xb6 l) (by
  intro i s x hi hs hx
  have hxs : 1 ≤ x ∧ x ≤ 8 := by rw [Xq0 l i hi] at hx; simpa [Xb1, hx] using List.all_eq_true.1 ha _ (List.getElem_mem hi)
  have := Xfg x.toNat (by omega)
  unfold Xb6
  simp only [Int.toNat_natCast, hx]
  rw [syA, rqA, show x = ((x.toNat : Nat) : Int) by omega, Xga _ (by omega), Xah, Xbb (by simp only [strOfNums_size]; omega), wkA, Xar]
  rfl) (by intro s; unfold Xb6; simp only; rw [snA]) _ (by omega), Xah]
 rfl
theorem Xp8 (s : Seq) (h : Xfu s = true) : Xe2 s = some (strOfNums (Xzd s)) := by
 obtain ⟨h1, h2, h3⟩ := Xb3 h
 have h4 := Xii h
 have := Xft h1
 have := Xft h2
 have := Xfg s.Level.toNat (by omega)
 unfold Xe2
 rw [show s.Level = ((s.Level.toNat : Nat) : Int) by omega, Xga _ (by omega), Xah, show (4 : Int) = ((4 : Nat) : Int) from rfl, Xhw _ 4 (by omega) (by omega) (by omega), Xah, Xbb (by simp only [strOfNums_size, Xbo]; omega), Xgx _ h1, Xah, Xar, Xbb (by simp only [strOfNums_size, List.length_append, Xbo]; omega), Xgx _ h2, Xah, Xar, Xbb (by simp only [strOfNums_size, List.length_append, Xbo]; omega), Xar]
 rfl
theorem Xot (s : Seq) (h : Xfu s = true) (hc : s.Cols.length ≤ maxLen) (hr : s.Rows.length ≤ maxLen) : Xem s = some (strOfNums (Xzd s), true) := by
 obtain ⟨h1, h2, h3⟩ := Xb3 h
 have h4 := Xii h
 have g1 := Xft h1
 have g2 := Xft h2
 have g3 := Xfg s.Level.toNat (by omega)
 unfold Xem
 rw [Xf1 s hc hr, Xah, h, Xcq (by rfl), show s.Level = ((s.Level.toNat : Nat) : Int) by omega, Xjy _ (by omega), Xah, show (4 : Int) = ((4 : Nat) : Int) from rfl, Xf3 _ 4 (by omega) (by omega) (by omega), Xah, Xbb (by simp only [strOfNums_size, Xbo]; omega), Xar]
 have step : ∀ (n : Nat) (l t : List Int), n = 0 ∨ n = 1 → ([s.Cols, s.Rows]).getD n Xcm = l → Xbh l = true → t.length ≤ 300 → Xa6 s (strOfNums t, (n : Int)) = some (.go (strOfNums (t ++ Xs0 l), ((n + 1 : Nat) : Int))) := by
  intro n l t hn hl hok ht
  have l4 := Xer hok
  have ha : l.all Xb1 = true := by unfold Xbh at hok; rw [Bool.and_eq_true] at hok; exact hok.2
  have := Xfg l.length (by omega)
  unfold Xa6
  simp only [Int.toNat_natCast, hl, List.length_cons, List.length_nil]
  rw [syA, rqA, rqA, Xjy _ (by omega), Xah, Xbb (by simp only [strOfNums_size]; omega), Xar, Xkx l ha l4.2 (Xby s (strOfNums t, (n : Int))) (by
   intro i u x hi hs hx
   have hxs : 1 ≤ x ∧ x ≤ 8 := by rw [Xq0 l i hi] at hx; simpa [Xb1, hx] using List.all_eq_true.1 ha _ (List.getElem_mem hi)
   have := Xfg x.toNat (by omega)
   unfold Xby
   simp only [Int.toNat_natCast, hl, hx]
   rw [syA, rqA, show x = ((x.toNat : Nat) : Int) by omega, Xjy _ (by omega), Xah, Xbb (by simp only [strOfNums_size]; omega), wkA, Xar]
   rfl) (by intro u; unfold Xby; simp only [Int.toNat_natCast, hl]; rw [snA]) _ (by rw [List.length_append]; omega), Xah, wkA, List.append_assoc]
  rfl
 have s0 := step 0 s.Cols (ueL s.Level.toNat ++ Xqf 4 s.Bits) (.inl rfl) rfl h1 (by rw [List.length_append, Xbo]; omega)
 have s1 := step 1 s.Rows (ueL s.Level.toNat ++ Xqf 4 s.Bits ++ Xs0 s.Cols) (.inr rfl) rfl h2 (by simp only [List.length_append, Xbo]; omega)
 have s2 : ∀ t, Xa6 s (t, ((2 : Nat) : Int)) = some (.done t) := by intro t; unfold Xa6; simp only; rw [Xeu (by simp)]
 have e : loop (Xa6 s) (strOfNums (ueL s.Level.toNat ++ Xqf 4 s.Bits), ((0 : Nat) : Int)) = some (strOfNums (Xzd s)) := by
  rw [Xd6 s0, Xd6 s1, Xb0 (s2 _)]; rfl
 exact Xwa e
theorem Xh9 (l : List ByteArray) (hl : l.length ≤ 9223372036854775806) : Xbg l l = some true := by
 unfold Xbg
 rw [Xcq (by simp), Xnj l.length (f := Xbl l l) (by
  intro i hi
  unfold Xbl
  rw [syA, rqA, rqA, Xcq (by simp), wkA]
  rfl) (by unfold Xbl; rw [snA])]
 rfl
noncomputable def Xle (k : Int) : List ByteArray → List ByteArray
 | [] => []
 | _ :: r => mT k :: Xle (k + 1) r
theorem Xs7 : ∀ (l : List ByteArray) (k : Int), (Xle k l).length = l.length
 | [], _ => rfl
 | _ :: r, k => by rw [Xle, List.length_cons, List.length_cons, Xs7 r]
theorem Xie (l : List ByteArray) (k : Int) (h0 : 0 < k) (h1 : k ≤ 1000000000) (hl : l.length ≤ 100000000) : Xbu l k = some (k + l.length, Xle k l) := by
 unfold Xbu
 have key : ∀ (r a : List ByteArray) (j : Int), 0 < j → j + r.length ≤ 2000000000 → a.length + r.length ≤ 100000000 → loop Xa8 (j, (a.length : Int), a ++ r) = some (j + r.length, a ++ Xle j r) := by
  intro r
  induction r with
  | nil =>
   intro a j hj1 hj2 hl
   refine Xgp ?_
   unfold Xa8
   simp only [List.append_nil]
   rw [snA]
   simp [Xle]
  | cons p r ih =>
   intro a j hj1 hj2 hl
   simp only [List.length_cons] at hj2 hl ⊢
   have hcl : ∀ x : ByteArray, (a ++ x :: r).length = a.length + (r.length + 1) := fun x => by simp
   refine lgo (y := (j + 1, ((a ++ [mT j]).length : Int), (a ++ [mT j]) ++ r)) ?_ ?_
   ·
    unfold Xa8
    simp only [Int.toNat_natCast, Xke, hcl]
    rw [syA, Xgg _ hj1 (by omega), Xah, rqA, rqA, wkA (e := j + 1), wkA]
    simp
   ·
    rw [ih _ (j + 1) (by omega) (by omega) (by simp; omega)]
    simp only [Xle, List.append_assoc, List.singleton_append]
    congr 2
    omega
 have := key l [] k h0 (by omega) (by simp; omega)
 simp only [List.length_nil, List.nil_append] at this
 exact Xwa this
theorem Xia (l : List ByteArray) (k : Int) (h0 : 0 < k) (h1 : k ≤ 1000000000) (hl : l.length ≤ 100000000) : Xbc (Xle k l) k = some (k + l.length) := by
 unfold Xbc
 have key : ∀ (r a : List ByteArray) (j : Int), 0 < j → j + r.length ≤ 2000000000 → a.length + r.length ≤ 100000000 → loop (Xa7 (a ++ Xle j r)) (j, (a.length : Int)) = some (.out (j + r.length)) := by
  intro r
  induction r with
  | nil =>
   intro a j hj1 hj2 hl
   refine Xgp ?_
   unfold Xa7
   simp only [Xle, List.append_nil]
   rw [snA]
   simp
  | cons p r ih =>
   intro a j hj1 hj2 hl
   simp only [List.length_cons] at hj2 hl ⊢
   have hcl : ∀ (x : ByteArray) (r : List ByteArray), (a ++ x :: r).length = a.length + (r.length + 1) := fun x r => by simp
   refine lgo (y := (j + 1, ((a ++ [mT j]).length : Int))) ?_ ?_
   ·
    unfold Xa7
    simp only [Xle, Int.toNat_natCast, Xe7, hcl, Xs7]
    rw [syA, rqA, Xgg _ hj1 (by omega), Xah, Xcq (by simp), wkA (e := j + 1), wkA]
    simp
   ·
    have := ih (a ++ [mT j]) (j + 1) (by omega) (by omega) (by simp; omega)
    simp only [Xle]
    rw [List.append_assoc, List.singleton_append] at this
    rw [this]
    congr 2
    omega
 have := key l [] k h0 (by omega) (by simp; omega)
 simp only [List.length_nil, List.nil_append] at this
 exact Xwa this
theorem Xhq (l : List Int) (hl : l.length ≤ 1048576) : Xdh l = some l := by
 unfold Xdh
 rw [rqA, Int.toNat_natCast]
 have := Xwf l (fun p : Int => p) 0 (0 : Int) (f := Xch l) (by
  intro i o hi ho
  unfold Xch
  simp only
  rw [syA, rqA, rqA, rqA, wkA]
  rfl) (by
  intro o; unfold Xch; simp only; rw [snA])
 rw [this, Xah, List.map_id']
theorem Xrn (s : Seq) (h1 : s.Cols.length ≤ 1048576) (h2 : s.Rows.length ≤ 1048576) : Xfs s = some s := by
 unfold Xfs
 rw [Xhq _ h1, Xah, Xhq _ h2, Xah]
theorem Xho (l : List Int) (m : Int) (hl : l.length ≤ maxLen) (h0 : 0 ≤ m) (h1 : m ≤ 1048576) : Xdg l m = some (if m < l.length then -1 else m - l.length) := by
 have hm : maxLen = 9223372036854775807 := rfl
 unfold Xdg
 rw [wkA, Yad]
 by_cases h : m < l.length
 ·
  rw [if_pos h, if_pos (by omega)]
 ·
  rw [if_neg h, if_neg (by omega)]
theorem Xrj (s : Seq) (m : Int) (h1 : s.Cols.length ≤ maxLen) (h2 : s.Rows.length ≤ maxLen) (h0 : 0 ≤ m) (hm : m ≤ 1048576) : ∃ t, Xfr s m = some t ∧ t ≤ m ∧ -1 ≤ t ∧ (0 ≤ t → s.Cols.length ≤ 1048576 ∧ s.Rows.length ≤ 1048576) := by
 unfold Xfr
 rw [Xho _ m h1 h0 hm, Xah]
 by_cases e1 : m < s.Cols.length
 ·
  rw [if_pos e1, syA]; exact ⟨_, rfl, by omega, by omega, by omega⟩
 ·
  rw [if_neg e1, snA, Xho _ _ h2 (by omega) (by omega), Xah]
  by_cases e2 : m - s.Cols.length < s.Rows.length
  ·
   rw [if_pos e2, syA]; exact ⟨_, rfl, by omega, by omega, by omega⟩
  ·
   rw [if_neg e2, snA]; exact ⟨_, rfl, by omega, by omega, fun _ => by omega⟩
theorem Xrh (p : Pic) (m : Int) (hl : p.Dots.size ≤ maxLen) (h0 : 0 ≤ m) (h1 : m ≤ 1048576) : Xfq p m = some (if m < p.Dots.size then -1 else m - p.Dots.size) := by
 have hm : maxLen = 9223372036854775807 := rfl
 unfold Xfq
 rw [wkA, Yad]
 by_cases h : m < p.Dots.size
 ·
  rw [if_pos h, if_pos (by omega)]
 ·
  rw [if_neg h, if_neg (by omega)]
theorem Xlb (s : Source) (h : Xi4 s) : ∃ t, Xc5 s 1048576 = some t ∧ (0 ≤ t → s.Seq.Cols.length ≤ 1048576 ∧ s.Seq.Rows.length ≤ 1048576) := by
 unfold Xi4 Xxz Xy6 at h
 obtain ⟨t, e, a, b, c⟩ := Xrj s.Seq 1048576 h.1.2.2.1.1 h.1.2.2.2.1 (by omega) (by omega)
 unfold Xc5
 rw [e, Xah]
 by_cases ht : t < 0
 ·
  rw [Xf8 ht]; exact ⟨_, rfl, by omega⟩
 ·
  rw [Xeu ht, Xrh s.Ref t h.2.2.2.2.2.2.2.2.2.2 (by omega) (by omega), Xah]
  split
  ·
   rw [syA]; exact ⟨_, rfl, by omega⟩
  ·
   rw [snA]; exact ⟨_, rfl, fun _ => c (by omega)⟩
theorem Xlc (s : Source) (h1 : s.Seq.Cols.length ≤ 1048576) (h2 : s.Seq.Rows.length ≤ 1048576) : Xbf s = some s := by
 unfold Xbf
 rw [Xrn _ h1 h2, Xah]; rfl
theorem Xi2 (s : Source) (k : Int) (h0 : 0 < k) (h1 : k ≤ 100000000) (hc : s.Seq.Cols.length ≤ 100000000) (hr : s.Seq.Rows.length ≤ 100000000) : ∃ s', Xbz s k = some (k + s.Seq.Cols.length + s.Seq.Rows.length, s') := by
 unfold Xbz
 rw [Xmy _ _ h0 h1 hc hr, Xah]
 exact ⟨_, rfl⟩
def Xb9 (s : Source) : List ByteArray := if Xeh s = true then [strOfNums (7 :: Xx0 (Xzd s.Seq)), strOfNums (8 :: Xx0 (Xzv s.Par))] else []
theorem Xhs {s : Source} (h : Xeh s = true) : Xfu s.Seq = true ∧ Xlf s.Par = true := by
 unfold Xeh at h
 simp only [Bool.and_eq_true, decide_eq_true_eq] at h
 exact ⟨Xn6 h.1.1.1.1.1, h.1.1.1.1.2⟩
theorem Xja (s : Source) (hb : (Lit.int .i64 s.Seq.Bits).wf = true) : Xb4 s = some (Xb9 s) := by
 unfold Xb4 Xb9
 rw [Xli s hb, Xah, Xni]
 cases h : Xeh s with
 | false => rfl
 | true =>
  obtain ⟨h1, h2⟩ := Xhs h
  have := Xu6 h1
  rw [Xhf, Xp8 _ h1, Xah, Xhu 7 _ rfl (Xu5 _) (by omega), Xah, Xp6 _ h2, Xah, Xhu 8 _ rfl (Xuv _) (by rw [Xuw]; omega), Xah]
  rfl
theorem Xiw (s : Source) (hc : s.Seq.Cols.length ≤ maxLen) (hr : s.Seq.Rows.length ≤ maxLen) : Xbk s = some (Xb9 s) := by
 unfold Xbk Xb9
 rw [Xk2 s hc hr, Xah, Xni]
 cases h : Xeh s with
 | false => rfl
 | true =>
  obtain ⟨h1, h2⟩ := Xhs h
  have := Xu6 h1
  rw [Xhf, Xot _ h1 hc hr, Xah, Xol _ h2, Xah, Xhl 7 _ rfl (Xu5 _) (by omega), Xah, Xhl 8 _ rfl (Xuv _) (by rw [Xuw]; omega), Xah]
  rfl
theorem FnExactSourceSets {p0 : Source} (h0 : Xi4 p0) : Xa9 p0 = some true := by
 have hm : maxLen = 9223372036854775807 := rfl
 unfold Xa9
 obtain ⟨t, e, a⟩ := Xlb p0 h0
 rw [e, Xah]
 by_cases ht : t < 0
 ·
  rw [Xf8 ht]
 rw [Xeu ht]
 obtain ⟨l1, l2⟩ := a (by omega)
 have hb : (Lit.int .i64 p0.Seq.Bits).wf = true := by unfold Xi4 Xxz at h0; exact h0.1.2.1
 have hl : (Xb9 p0).length ≤ 2 := by unfold Xb9; split <;> simp
 obtain ⟨s', hs'⟩ := Xi2 p0 1 (by omega) (by omega) (by omega) (by omega)
 simp only [Xlc p0 l1 l2, Xah, Xja p0 hb, Xiw p0 (by omega) (by omega), Xh9 (Xb9 p0) (by omega), Bool.not_true, Xgr, Xi0 p0 (by omega) (by omega), hs', Xie (Xb9 p0) 1 (by omega) (by omega) (by omega), Xia (Xb9 p0) 1 (by omega) (by omega) (by omega), bne_self_eq_false]
 rw [snA, Xah, Xgr, snA, snA]
end Go.Proofs.Ytlebkepfhdjnmab.A.Pure
