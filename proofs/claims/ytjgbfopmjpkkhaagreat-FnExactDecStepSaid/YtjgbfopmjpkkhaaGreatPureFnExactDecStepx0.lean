/- The pure statement of the law FnExactDecStep, part 1: over numbers, texts and lists alone, what the law computes is true. Conditions: the sizes of what a machine holds. -/
import Derived.Test.YtjgbfopmjpkkhaaGreatDFnExactDecStep
namespace Go.Proofs.YtjgbfopmjpkkhaaGreat.A.Pure
open Go Go.Proofs Go.Proofs.YtjgbfopmjpkkhaaGreatAL Go.RowKit
set_option linter.unusedVariables false
set_option linter.unusedSimpArgs false
set_option maxHeartbeats 1000000
theorem Xad {α β : Type} (a : α) (f : α → Option β) : bnd (some a) f = f a := rfl
theorem Xgu {α β : Type} {x : Option α} {a : α} {f : α → Option β} (h : x = some a) : bnd x f = f a := by subst h; rfl
theorem Xaw {β : Type} (x y : β) : sel true x y = x := rfl
theorem Xav {β : Type} (x y : β) : sel false x y = y := rfl
theorem Ym1 {β : Type} (b : Bool) (x y : β) : sel (!b) x y = sel b y x := by cases b <;> rfl
theorem Xdx (b x : Bool) : sel b (some x) (some false) = some (b && x) := by cases b <;> rfl
theorem Yil (b x : Bool) : sel b (some true) (some x) = some (b || x) := by cases b <;> rfl
theorem Ykl (b x : Bool) : sel b (some x) (some true) = some (!b || x) := by cases b <;> rfl
theorem Yr6 {β : Type} (b : Bool) (x y : β) : sel b (some x) (some y) = some (sel b x y) := by cases b <;> rfl
theorem Ykk {β : Type} (b : Bool) (x y : β) : sel b x y = if b = true then x else y := by cases b <;> rfl
theorem Yg0 {β : Type} (p : Prop) [Decidable p] (x y : β) : sel (decide p) x y = if p then x else y := by
 by_cases h : p <;> simp [h, sel]
theorem Xb1 {β : Type} {b : Bool} {x y : β} (h : b = true) : sel b x y = x := by subst h; rfl
theorem Xbg {β : Type} {b : Bool} {x y : β} (h : b = false) : sel b x y = y := by subst h; rfl
theorem Xaj {β : Type} {p : Prop} [Decidable p] {x y : β} (h : p) : sel (decide p) x y = x := by simp [h, sel]
theorem Xap {β : Type} {p : Prop} [Decidable p] {x y : β} (h : ¬ p) : sel (decide p) x y = y := by simp [h, sel]
theorem Xai {β : Type} {c : Prop} [Decidable c] {k : Option β} (h : c) : req c k = k := if_pos h
theorem wk {e : Int} (h1 : -9223372036854775808 ≤ e) (h2 : e ≤ 9223372036854775807) : Xaa .i64 e = e := by
 show wrap64 e = e
 unfold wrap64; omega
theorem w8 {e : Int} (h1 : 0 ≤ e) (h2 : e ≤ 255) : Xaa .u8 e = e := by
 show IntKind.wrap .u8 e = e
 simp [IntKind.wrap, IntKind.signed, IntKind.bits]; omega
theorem Xca {a b : Int} (h : 0 ≤ a) : Int.tmod a b = a % b := Int.tmod_eq_emod_of_nonneg h
theorem Xbn {a b : Int} (h : 0 ≤ a) : Int.tdiv a b = a / b := Int.tdiv_eq_ediv_of_nonneg h
theorem Xf5 {P : Nat → Prop} (n : Nat) (h0 : P n) (hs : ∀ i, i < n → P (i + 1) → P i) : ∀ i, i ≤ n → P i := by
 intro i hi
 obtain ⟨k, rfl⟩ : ∃ k, n = i + k := ⟨n - i, by omega⟩
 clear hi
 induction k generalizing i with
 | zero => exact h0
 | succ k ih =>
  refine hs i (by omega) ?_
  exact ih (i + 1) (by rw [show i + 1 + k = i + (k + 1) by omega]; exact h0) (fun j hj => hs j (by omega))
theorem lgo {V O : Type} {f : V → Option (Lp V O)} {x y : V} {r : Option O} (h : f x = some (.go y)) (k : loop f y = r) : loop f x = r := by rw [Xnl h]; exact k
theorem Xda {V O : Type} {f : V → Option (Lp V O)} {x : V} {o : O} (h : f x = some (.done o)) : loop f x = some o := Xcf h
theorem Xcb {α : Type} (l : List α) (i : Nat) (h : i < l.length) (d : α) : l.getD i d = l[i] := by
 simp [List.getD_eq_getElem?_getD, List.getElem?_eq_getElem h]
theorem Xan (a b c : Int) : Xar a b c = some (decide (b ≤ a ∧ a ≤ c)) := by
 unfold Xar
 by_cases h : b ≤ a <;> simp [bnd, sel, h]
theorem Xak (a b c : Int) : Xax a b c = some (decide (b ≤ a ∧ a ≤ c)) := by
 unfold Xax
 by_cases h : b ≤ a <;> simp [bnd, sel, h]
theorem Ykm {α : Type} (a : List α) (x y : α) (b : List α) : (a ++ x :: b).set a.length y = a ++ y :: b := by
 induction a with
 | nil => rfl
 | cons z a ih => simp only [List.cons_append, List.length_cons, List.set_cons_succ, ih]
theorem Xov {α : Type} (a : List α) (x d : α) (b : List α) : (a ++ x :: b).getD a.length d = x := by
 induction a with
 | nil => rfl
 | cons z a ih => simp
theorem Yq6 {α β : Type} (l : List α) (g : α → β) (d : α) (e : β) {f : (Int × List β) → Option (Lp (Int × List β) (List β))}
  (h : ∀ (i : Nat) (o : List β), i < l.length → o.length = l.length → f ((i : Int), o) = some (.go (((i + 1 : Nat) : Int), o.set i (g (l.getD i d))))) (h0 : ∀ o, f ((l.length : Int), o) = some (.done o)) : loop f (0, List.replicate l.length e) = some (l.map g) := by
 have key : ∀ (r a : List α), l = a ++ r → loop f ((a.length : Int), a.map g ++ List.replicate r.length e) = some (l.map g) := by
  intro r
  induction r with
  | nil =>
   intro a ha
   rw [List.append_nil] at ha
   subst ha
   rw [Xcf (h0 _)]; simp
  | cons x r ih =>
   intro a ha
   have hlen : a.length < l.length := by rw [ha]; simp
   rw [Xnl (h a.length _ hlen (by rw [ha]; simp))]
   have e1 : l.getD a.length d = x := by rw [ha]; exact Xov a x d r
   have e2 : (a.map g ++ List.replicate (x :: r).length e).set a.length (g x) = (a ++ [x]).map g ++ List.replicate r.length e := by
    have := Ykm (a.map g) e (g x) (List.replicate r.length e)
    rw [List.length_map] at this
    rw [List.length_cons, List.replicate_succ, this]
    simp
   rw [e1, e2]
   have := ih (a ++ [x]) (by rw [ha]; simp)
   rw [List.length_append, List.length_singleton] at this
   exact this
 exact key l [] rfl
theorem Xqs {f : Int → Option (Lp Int (Ou Unit Bool))} (n : Nat) (h : ∀ i : Nat, i < n → f i = some (.go ((i + 1 : Nat) : Int))) (h0 : f n = some (.done (.out ()))) : loop f 0 = some (.out ()) :=
 Xf5 (P := fun i => loop f (i : Int) = some (.out ())) n (Xcf h0) (fun i hi ih => by rw [Xnl (h i hi)]; exact ih) 0 (by omega)
def Xc0 (n a b : Int) : Int := if b < a ∨ n < a then a else if n > b then b else n
theorem Xi0 (n a b : Int) : Xd8 n a b = some (Xc0 n a b) := by
 unfold Xd8 Xc0
 congr 1
 repeat' split
 all_goals omega
theorem Xl6 {n a b : Int} (h : a ≤ b) : a ≤ Xc0 n a b ∧ Xc0 n a b ≤ b := by
 unfold Xc0
 repeat' split
 all_goals omega
theorem Xez (n a b : Int) : Xeh n a b = some (Xc0 n a b) := by
 unfold Xeh Xc0
 rw [Yil, Xad]
 by_cases h : b < a ∨ n < a
 ·
  rw [if_pos h, Xb1 (by simpa using h)]
 ·
  rw [if_neg h, Xbg (by simp; omega), Yg0]; split <;> rfl
def Xiq (n : Int) : Bool := decide (1 ≤ n ∧ n ≤ 8)
def Xm6 : List Int → Int
 | [] => 0
 | x :: r => x + Xm6 r
def Xho (l : List Int) : Bool := decide (1 ≤ l.length ∧ l.length ≤ 4) && l.all Xiq
def Xx1 (l : List Int) : Int := if Xho l = true then Xm6 l else 0
theorem Xo5 : ∀ {l : List Int}, l.all Xiq = true → (l.length : Int) ≤ Xm6 l ∧ Xm6 l ≤ 8 * l.length
 | [], _ => by simp [Xm6]
 | x :: r, h => by
  rw [List.all_cons, Bool.and_eq_true] at h
  have := Xo5 h.2
  have hx := h.1
  unfold Xiq at hx
  simp only [decide_eq_true_eq] at hx
  rw [Xm6, List.length_cons]
  omega
theorem Xyk (l : List Int) : 0 ≤ Xx1 l ∧ Xx1 l ≤ 32 := by
 unfold Xx1
 split
 ·
  rename_i h
  unfold Xho at h
  rw [Bool.and_eq_true, decide_eq_true_eq] at h
  have := Xo5 h.2
  omega
 ·
  omega
theorem Xkx (l : List Int) : Xgn l = some (Xx1 l) := by
 unfold Xgn Xx1 Xho
 rw [Yil, Xad]
 by_cases h : 1 ≤ l.length ∧ l.length ≤ 4
 ·
  rw [Xbg (by simp; omega), decide_eq_true h, Bool.true_and]
  have key : ∀ (r a : List Int) (t : Int), l = a ++ r → 0 ≤ t → t ≤ 8 * a.length → loop (Xf0 l) (t, (a.length : Int)) = some (if r.all Xiq = true then .out (t + Xm6 r) else .ret 0) := by
   intro r
   induction r with
   | nil =>
    intro a t ha h0 h1
    rw [List.append_nil] at ha
    refine Xda ?_
    unfold Xf0
    simp only
    rw [Xap (by rw [ha]; omega)]
    simp [Xm6]
   | cons x r ih =>
    intro a t ha h0 h1
    have hlen : a.length < l.length := by rw [ha]; simp
    have hx : l.getD a.length 0 = x := by rw [ha]; exact Xov a x _ r
    have hstep : Xf0 l (t, (a.length : Int)) = sel (Xiq x) (some (.go (Xaa .i64 (t + x), ((a.length + 1 : Nat) : Int)))) (some (.done (.ret 0))) := by
     unfold Xf0
     simp only [Int.toNat_natCast, hx]
     rw [Xaj (by omega), Xai (by omega), Xak, Xad, Ym1, Xai (by omega), wk (e := (a.length : Int) + 1) (by omega) (by omega)]
     rfl
    cases e : Xiq x with
    | true =>
     rw [e] at hstep
     have hx2 := e
     unfold Xiq at hx2
     simp only [decide_eq_true_eq] at hx2
     rw [wk (by omega) (by omega), Xaw] at hstep
     have := ih (a ++ [x]) (t + x) (by rw [ha]; simp) (by omega) (by simp; omega)
     rw [List.length_append, List.length_singleton] at this
     rw [Xnl hstep, this, List.all_cons, e, Bool.true_and, Xm6, Int.add_assoc]
    | false =>
     rw [e, Xav] at hstep
     rw [Xcf hstep, List.all_cons, e, Bool.false_and]; rfl
  have := key l [] 0 rfl (by omega) (by simp)
  simp only [List.length_nil, Int.zero_add] at this
  rw [show (((0 : Int), (0 : Int))) = (0, ((0 : Nat) : Int)) from rfl, this, Xad]
  cases l.all Xiq <;> rfl
 ·
  rw [Xb1 (by simp; omega), decide_eq_false h, Bool.false_and]; rfl
theorem Xl0 (l : List Int) (h : Xho l = true) : Xb5 l = some (Xm6 l) := by
 unfold Xho at h
 rw [Bool.and_eq_true, decide_eq_true_eq] at h
 unfold Xb5
 have key : ∀ (r a : List Int) (t : Int), l = a ++ r → 0 ≤ t → t ≤ 8 * a.length → loop (Xdi l) (t, (a.length : Int)) = some (t + Xm6 r) := by
  intro r
  induction r with
  | nil =>
   intro a t ha h0 h1
   rw [List.append_nil] at ha
   refine Xda ?_
   unfold Xdi
   simp only
   rw [Xap (by rw [ha]; omega)]
   simp [Xm6]
  | cons x r ih =>
   intro a t ha h0 h1
   have hlen : a.length < l.length := by rw [ha]; simp
   have hx : l.getD a.length 0 = x := by rw [ha]; exact Xov a x _ r
   have e : Xiq x = true := List.all_eq_true.1 h.2 x (by rw [ha]; simp)
   unfold Xiq at e
   simp only [decide_eq_true_eq] at e
   have := ih (a ++ [x]) (t + x) (by rw [ha]; simp) (by omega) (by simp; omega)
   rw [List.length_append, List.length_singleton] at this
   rw [Xm6, ← Int.add_assoc, ← this]
   refine Xnl ?_
   unfold Xdi
   simp only [Int.toNat_natCast, hx]
   rw [Xaj (by omega), Xai (by omega), wk (e := (a.length : Int) + 1) (by omega) (by omega), wk (by omega) (by omega)]
   rfl
 have := key l [] 0 rfl (by omega) (by simp)
 simp only [List.length_nil, Int.zero_add] at this
 rw [show (((0 : Int), (0 : Int))) = (0, ((0 : Nat) : Int)) from rfl, this, Xad]
def Xm1 (s : Seq) : Int := Xx1 s.Cols * Xx1 s.Rows
theorem Xs4 (s : Seq) : 0 ≤ Xm1 s ∧ Xm1 s ≤ 1024 := by
 unfold Xm1
 have h1 := Xyk s.Cols
 have h2 := Xyk s.Rows
 refine ⟨Int.mul_nonneg h1.1 h2.1, ?_⟩
 calc Xx1 s.Cols * Xx1 s.Rows ≤ 32 * Xx1 s.Rows := Int.mul_le_mul_of_nonneg_right h1.2 h2.1
  _ ≤ 1024 := by omega
theorem Xxq (s : Seq) : Xh2 s = some (Xm1 s) := by
 have h := Xs4 s
 unfold Xh2
 rw [Xkx, Xad, Xkx, Xad, wk (by show _ ≤ Xm1 s; omega) (by show Xm1 s ≤ _; omega)]
 rfl
theorem Yqi (s : Seq) (n : Nat) (hn : n = 0 ∨ n = 1) (l : List Int) (hl : ([s.Cols, s.Rows]).getD n Xko = l) (h4 : l.length ≤ 4) : loop (Xcc s (n : Int)) 0 = some (if l.all Xiq = true then .out () else .ret 0) := by
 have key : ∀ (r a : List Int), l = a ++ r → loop (Xcc s (n : Int)) (a.length : Int) = some (if r.all Xiq = true then .out () else .ret 0) := by
  intro r
  induction r with
  | nil =>
   intro a ha
   rw [List.append_nil] at ha
   refine Xda ?_
   unfold Xcc
   rw [Int.toNat_natCast, hl, Xap (by rw [ha]; omega)]; rfl
  | cons x r ih =>
   intro a ha
   have hlen : a.length < l.length := by rw [ha]; simp
   have hx : l.getD a.length 0 = x := by rw [ha]; exact Xov a x _ r
   have hstep : Xcc s (n : Int) (a.length : Int) = sel (Xiq x) (some (.go ((a.length + 1 : Nat) : Int))) (some (.done (.ret 0))) := by
    unfold Xcc
    simp only [Int.toNat_natCast, hl, hx]
    rw [Xaj (by omega), Xai (by omega), Xan, Xad, Ym1, wk (by omega) (by omega)]
    rfl
   cases e : Xiq x with
   | true =>
    rw [e, Xaw] at hstep
    have := ih (a ++ [x]) (by rw [ha]; simp)
    rw [List.length_append, List.length_singleton] at this
    rw [Xnl hstep, this, List.all_cons, e, Bool.true_and]
   | false => rw [e, Xav] at hstep; rw [Xcf hstep, List.all_cons, e, Bool.false_and]; rfl
 exact key l [] rfl
theorem Xwv (s : Seq) (h1 : s.Cols.length ≤ maxLen) (h2 : s.Rows.length ≤ maxLen) : Xhu s = some (Xm1 s) := by
 have h := Xs4 s
 unfold Xhu
 have step : ∀ (n : Nat) (l : List Int), n = 0 ∨ n = 1 → ([s.Cols, s.Rows]).getD n Xko = l → Xdb s (n : Int) = sel (Xho l) (some (.go ((n + 1 : Nat) : Int))) (some (.done (.ret 0))) := by
  intro n l hn hl
  unfold Xdb Xho
  rw [Int.toNat_natCast, hl]
  simp only [List.length_cons, List.length_nil]
  rw [Xaj (by omega), Xai (by omega), Xai (by omega), Xan, Xad, Ym1]
  by_cases h4 : 1 ≤ l.length ∧ l.length ≤ 4
  ·
   rw [Xaj (by omega), Yqi s n hn l hl h4.2, Xad, decide_eq_true h4, Bool.true_and, wk (by omega) (by omega)]
   cases l.all Xiq <;> rfl
  ·
   rw [Xap (by omega), decide_eq_false h4, Bool.false_and, Xav]
 have s0 := step 0 s.Cols (.inl rfl) rfl
 have s1 := step 1 s.Rows (.inr rfl) rfl
 have s2 : Xdb s ((2 : Nat) : Int) = some (.done (.out ())) := by unfold Xdb; rw [Xap (by simp)]
 rw [show (0 : Int) = ((0 : Nat) : Int) from rfl]
 unfold Xm1 at h ⊢
 unfold Xx1 at h ⊢
 cases e0 : Xho s.Cols with
 | false => rw [e0, Xav] at s0; rw [Xcf s0, Xad]; simp
 | true =>
  rw [e0, Xaw] at s0
  rw [Xnl s0]
  cases e1 : Xho s.Rows with
  | false => rw [e1, Xav] at s1; rw [Xcf s1, Xad]; simp
  | true =>
   rw [e1, Xaw] at s1
   rw [Xnl s1, Xcf s2, Xad]
   simp only
   rw [e0, e1, if_pos rfl, if_pos rfl] at h
   rw [Xl0 _ e0, Xad, Xl0 _ e1, Xad, wk (by omega) (by omega)]
   simp
def Xlb (n : Int) : Int := if n = 1 then 16 else if n = 2 then 64 else if n = 3 then 256 else 0
theorem Xr6 (n : Int) : Xe2 n = some (Xlb n) := by
 unfold Xe2 Xlb
 simp only [Ykk, beq_iff_eq]
 repeat' split
 all_goals rfl
theorem Xrs (n : Int) : Xew n = some (Xlb n) := by
 unfold Xew Xlb
 rw [Xan, Xad, Ym1]
 by_cases h : 1 ≤ n ∧ n ≤ 3
 ·
  rw [Xaj h, wk (by omega) (by omega), Xai (by simp only [List.length_cons, List.length_nil]; omega), Xai (by simp only [List.length_cons, List.length_nil]; omega)]
  rcases (show n = 1 ∨ n = 2 ∨ n = 3 by omega) with rfl | rfl | rfl <;> rfl
 ·
  rw [Xap h, if_neg (by omega), if_neg (by omega), if_neg (by omega)]
def Xl1 (s : Seq) : Bool := decide (1 ≤ Xm1 s ∧ Xm1 s ≤ Xlb s.Level) && decide (3 ≤ s.Bits ∧ s.Bits ≤ 8)
theorem Xjm (s : Seq) : Xhf s = some (Xl1 s) := by
 unfold Xhf Xl1
 simp only [Xxq, Xr6, Xak, Xad, Xdx]
theorem Xgz (s : Seq) (h1 : s.Cols.length ≤ maxLen) (h2 : s.Rows.length ≤ maxLen) : Xfy s = some (Xl1 s) := by
 unfold Xfy Xl1
 simp only [Xwv s h1 h2, Xrs, Xan, Xad, Xdx]
theorem Xdy {s : Seq} (h : Xl1 s = true) : Xho s.Cols = true ∧ Xho s.Rows = true ∧ 3 ≤ s.Bits ∧ s.Bits ≤ 8 := by
 unfold Xl1 at h
 rw [Bool.and_eq_true, decide_eq_true_eq, decide_eq_true_eq] at h
 obtain ⟨⟨h1, _⟩, h3⟩ := h
 unfold Xm1 Xx1 at h1
 refine ⟨?_, ?_, h3⟩
 ·
  refine Classical.byContradiction fun e => ?_
  rw [if_neg e, Int.zero_mul] at h1; omega
 ·
  refine Classical.byContradiction fun e => ?_
  rw [if_neg e, Int.mul_zero] at h1; omega
def Xdg (s : Seq) : Int := if Xl1 s = true then (s.Cols.length : Int) * s.Rows.length else 0
theorem Xke {l : List Int} (h : Xho l = true) : 1 ≤ l.length ∧ l.length ≤ 4 := by
 unfold Xho at h; rw [Bool.and_eq_true, decide_eq_true_eq] at h; exact h.1
theorem Yff {s : Seq} (h : Xl1 s = true) : 1 ≤ (s.Cols.length : Int) * s.Rows.length ∧ (s.Cols.length : Int) * s.Rows.length ≤ 16 := by
 obtain ⟨h1, h2, _⟩ := Xdy h
 have a := Xke h1
 have b := Xke h2
 have e : ∀ x y : Nat, 1 ≤ x → x ≤ 4 → 1 ≤ y → y ≤ 4 → 1 ≤ x * y ∧ x * y ≤ 16 := by
  intro x y h1 h2 h3 h4
  rcases (show x = 1 ∨ x = 2 ∨ x = 3 ∨ x = 4 by omega) with rfl | rfl | rfl | rfl <;> omega
 have := e _ _ a.1 a.2 b.1 b.2
 rw [← Int.natCast_mul]; omega
theorem Xjp (s : Seq) : Xfd s = some (Xdg s) := by
 unfold Xfd Xdg
 rw [Xjm, Xad, Ym1]
 cases h : Xl1 s with
 | false => rfl
 | true => have := Yff h; rw [Xaw, wk (by omega) (by omega), if_pos rfl]
theorem Xi9 (s : Seq) (h1 : s.Cols.length ≤ maxLen) (h2 : s.Rows.length ≤ maxLen) : Xfa s = some (Xdg s) := by
 unfold Xfa Xdg
 rw [Xgz s h1 h2, Xad, Ym1]
 cases h : Xl1 s with
 | false => rfl
 | true => have := Yff h; rw [Xaw, wk (by omega) (by omega), if_pos rfl]
def Xpe (s : Seq) : Int × Int := if Xl1 s = true then (8 * Xm6 s.Cols, 8 * Xm6 s.Rows) else (0, 0)
theorem Xw5 {l : List Int} (h : Xho l = true) : 1 ≤ Xm6 l ∧ Xm6 l ≤ 32 := by
 unfold Xho at h
 rw [Bool.and_eq_true, decide_eq_true_eq] at h
 have := Xo5 h.2
 omega
theorem Xsz (s : Seq) : Xid s = some (Xpe s) := by
 unfold Xid Xpe
 rw [Xjm, Xad, Ym1]
 cases h : Xl1 s with
 | false => rfl
 | true =>
  obtain ⟨h1, h2, _⟩ := Xdy h
  have a := Xw5 h1
  have b := Xw5 h2
  rw [Xaw, Xkx, Xad, Xkx, Xad, if_pos rfl]
  unfold Xx1
  rw [if_pos h1, if_pos h2, wk (by omega) (by omega), wk (by omega) (by omega)]
theorem Xse (s : Seq) (h1 : s.Cols.length ≤ maxLen) (h2 : s.Rows.length ≤ maxLen) : Xic s = some (Xpe s) := by
 unfold Xic Xpe
 rw [Xgz s h1 h2, Xad, Ym1]
 cases h : Xl1 s with
 | false => rfl
 | true =>
  obtain ⟨h1, h2, _⟩ := Xdy h
  have a := Xw5 h1
  have b := Xw5 h2
  rw [Xaw, Xl0 _ h1, Xad, Xl0 _ h2, Xad, if_pos rfl, wk (by omega) (by omega), wk (by omega) (by omega)]
def Xtp (p : Par) : Bool := decide (0 ≤ p.Qp ∧ p.Qp ≤ 40) && !(p.Large && p.Exact)
theorem Xl4 (p : Par) : Xir p = some (Xtp p) := by
 unfold Xir Xtp
 rw [Xak, Xad, Ykl, Xdx, Xad]
 cases p.Large <;> cases p.Exact <;> rfl
theorem Xly (p : Par) : Xij p = some (Xtp p) := by
 unfold Xij Xtp
 rw [Xan, Xad, Ykl, Xdx, Xad]
 cases p.Large <;> cases p.Exact <;> rfl
def Xcp (p : Pic) : Bool := decide (1 ≤ p.Wide ∧ p.Wide ≤ 256) && (decide (1 ≤ p.High ∧ p.High ≤ 256) && ((p.Dots.size : Int) == p.Wide * p.High))
theorem Xdq {w h : Int} (h1 : 1 ≤ w ∧ w ≤ 256) (h2 : 1 ≤ h ∧ h ≤ 256) : 1 ≤ w * h ∧ w * h ≤ 65536 := by
 have a : w * 1 ≤ w * h := Int.mul_le_mul_of_nonneg_left h2.1 (by omega)
 have b : w * h ≤ 256 * h := Int.mul_le_mul_of_nonneg_right h1.2 (by omega)
 omega
theorem Xfl (p : Pic) : Xfz p = some (Xcp p) := by
 unfold Xfz Xcp
 simp only [Xak, Xad, Xdx]
 by_cases h1 : 1 ≤ p.Wide ∧ p.Wide ≤ 256
 ·
  by_cases h2 : 1 ≤ p.High ∧ p.High ≤ 256
  ·
   have := Xdq h1 h2
   rw [wk (by omega) (by omega)]
  ·
   rw [decide_eq_false h2, Bool.false_and, Bool.false_and]
 ·
  rw [decide_eq_false h1, Bool.false_and, Bool.false_and]
theorem Xct (p : Pic) : Xdr p = some (Xcp p) := by
 unfold Xdr Xcp
 simp only [Xan, Xad, Xdx]
 by_cases h1 : 1 ≤ p.Wide ∧ p.Wide ≤ 256
 ·
  by_cases h2 : 1 ≤ p.High ∧ p.High ≤ 256
  ·
   have := Xdq h1 h2
   rw [wk (by omega) (by omega)]
  ·
   rw [decide_eq_false h2, Bool.false_and, Bool.false_and]
 ·
  rw [decide_eq_false h1, Bool.false_and, Bool.false_and]
def Xnf (p : Pic) (s : Seq) : Bool := Xcp p && ((p.Wide == (Xpe s).1) && (p.High == (Xpe s).2))
theorem Yl1 (p : Pic) (s : Seq) (h1 : s.Cols.length ≤ maxLen) (h2 : s.Rows.length ≤ maxLen) : Xn2 p s = some (Xnf p s) := by
 unfold Xn2 Xnf
 simp only [Xse s h1 h2, Xct, Xad, Xdx]
theorem Xpn (l : List Int) (hl : l.length ≤ 9223372036854775806) : Xj9 l l = some true := by
 unfold Xj9
 rw [Xbg (by simp), Xqs l.length (f := Xhx l l) (by
  intro i hi
  unfold Xhx
  rw [Xaj (by omega), Xai (by omega), Xai (by omega), Xbg (by simp), wk (by omega) (by omega)]
  rfl) (by unfold Xhx; rw [Xap (by omega)])]
 rfl
def Xod (k : Int) : List Int → List Int
 | [] => []
 | _ :: r => k :: Xod (k + 1) r
theorem Ymi : ∀ (l : List Int) (k : Int), (Xod k l).length = l.length
 | [], _ => rfl
 | _ :: r, k => by rw [Xod, List.length_cons, List.length_cons, Ymi r]
theorem Xpr (l : List Int) (k : Int) (h0 : 0 < k) (h1 : k ≤ 1000000000) (hl : l.length ≤ 100000000) : Xg6 l k = some (k + l.length, Xod k l) := by
 unfold Xg6
 have key : ∀ (r a : List Int) (j : Int), 0 < j → j + r.length ≤ 2000000000 → a.length + r.length ≤ 100000000 → loop Xft (j, (a.length : Int), a ++ r) = some (j + r.length, a ++ Xod j r) := by
  intro r
  induction r with
  | nil =>
   intro a j hj1 hj2 hl
   refine Xda ?_
   unfold Xft
   simp only [List.append_nil]
   rw [Xap (by omega)]
   simp [Xod]
  | cons p r ih =>
   intro a j hj1 hj2 hl
   simp only [List.length_cons] at hj2 hl ⊢
   have hcl : ∀ x : Int, (a ++ x :: r).length = a.length + (r.length + 1) := fun x => by simp
   refine lgo (y := (j + 1, ((a ++ [j]).length : Int), (a ++ [j]) ++ r)) ?_ ?_
   ·
    unfold Xft
    simp only [Int.toNat_natCast, Ykm, hcl]
    rw [Xaj (by omega), Xai (by omega), Xai (by omega), wk (e := j + 1) (by omega) (by omega), wk (by omega) (by omega)]
    simp
   ·
    rw [ih _ (j + 1) (by omega) (by omega) (by simp; omega)]
    simp only [Xod, List.append_assoc, List.singleton_append]
    congr 2
    omega
 have := key l [] k h0 (by omega) (by simp; omega)
 simp only [List.length_nil, List.nil_append] at this
 rw [show ((k, 0, l) : Int × Int × List Int) = (k, ((0 : Nat) : Int), l) from rfl, this]
 rfl
theorem Xpp (l : List Int) (k : Int) (h0 : 0 < k) (h1 : k ≤ 1000000000) (hl : l.length ≤ 100000000) : Xg5 (Xod k l) k = some (k + l.length) := by
 unfold Xg5
 have key : ∀ (r a : List Int) (j : Int), 0 < j → j + r.length ≤ 2000000000 → a.length + r.length ≤ 100000000 → loop (Xfs (a ++ Xod j r)) (j, (a.length : Int)) = some (.out (j + r.length)) := by
  intro r
  induction r with
  | nil =>
   intro a j hj1 hj2 hl
   refine Xda ?_
   unfold Xfs
   simp only [Xod, List.append_nil]
   rw [Xap (by omega)]
   simp
  | cons p r ih =>
   intro a j hj1 hj2 hl
   simp only [List.length_cons] at hj2 hl ⊢
   have hcl : ∀ (x : Int) (r : List Int), (a ++ x :: r).length = a.length + (r.length + 1) := fun x r => by simp
   refine lgo (y := (j + 1, ((a ++ [j]).length : Int))) ?_ ?_
   ·
    unfold Xfs
    simp only [Xod, Int.toNat_natCast, Xov, hcl, Ymi]
    rw [Xaj (by omega), Xai (by omega), Xbg (by simp), wk (e := j + 1) (by omega) (by omega), wk (by omega) (by omega)]
    simp
   ·
    have := ih (a ++ [j]) (j + 1) (by omega) (by omega) (by simp; omega)
    simp only [Xod]
    rw [List.append_assoc, List.singleton_append] at this
    rw [this]
    congr 2
    omega
 have := key l [] k h0 (by omega) (by simp; omega)
 simp only [List.length_nil, List.nil_append] at this
 rw [show ((k, 0) : Int × Int) = (k, ((0 : Nat) : Int)) from rfl, this]
 rfl
theorem Yc8 (s : Seq) (h1 : s.Cols.length ≤ 9223372036854775806) (h2 : s.Rows.length ≤ 9223372036854775806) : Xn7 s s = some true := by
 unfold Xn7
 simp only [Xpn _ h1, Xpn _ h2, Xad, bne_self_eq_false, Xav, Bool.not_true]
theorem Ydc (s : Seq) (k : Int) (h0 : 0 < k) (h1 : k ≤ 100000000) (hc : s.Cols.length ≤ 100000000) (hr : s.Rows.length ≤ 100000000) : Xk9 s k = some (k + s.Cols.length + s.Rows.length, (⟨s.Level, s.Bits, Xod k s.Cols, Xod (k + s.Cols.length) s.Rows⟩ : Seq)) := by
 unfold Xk9
 rw [Xpr _ _ h0 (by omega) hc, Xad, Xpr _ _ (by omega) (by omega) hr, Xad]
theorem Yda (s : Seq) (c r : List Int) (k : Int) (h0 : 0 < k) (h1 : k ≤ 100000000) (hc : c.length ≤ 100000000) (hr : r.length ≤ 100000000) (ec : s.Cols = Xod k c) (er : s.Rows = Xod (k + c.length) r) : Xk8 s k = some (k + c.length + r.length) := by
 unfold Xk8
 rw [ec, Xpp _ _ h0 (by omega) hc, Xad, Xap (by omega), er, Xpp _ _ (by omega) (by omega) hr, Xad, Xap (by omega)]
theorem Yc7 (p : Par) : Xn6 p p = some true := by
 unfold Xn6
 simp only [bne_self_eq_false, Xav, beq_self_eq_true, Bool.not_true]
theorem Xqq (p : Pic) : Xg4 p p = some true := by
 unfold Xg4
 simp only [bne_self_eq_false, Xav, beq_self_eq_true, Bool.not_true]
def Yux (l : List Int) : Prop := ∀ x ∈ l, 0 ≤ x ∧ x ≤ 255
theorem Ytj (l : List Int) (h : Yux l) : Xbo (strOfNums l) = l := by
 unfold Xbo
 rw [strOfNums_data, List.map_map]
 have : ∀ x ∈ l, ((fun b : UInt8 => (b.toNat : Int)) ∘ fun n : Int => UInt8.ofNat n.toNat) x = x := by
  intro x hx
  have := h x hx
  simp only [Function.comp_apply, UInt8.toNat_ofNat']
  omega
 rw [List.map_congr_left this, List.map_id']
theorem Yli (l : List Int) (h : Yux l) (i : Nat) (hi : i < l.length) : Xjx (strOfNums l) (i : Int) = l.getD i 0 := by
 unfold Xjx
 rw [dif_pos (by rw [Int.toNat_natCast, strOfNums_size]; exact hi)]
 have hx := h l[i] (List.getElem_mem hi)
 rw [Xcb l i hi]
 show ((((l.map fun n => UInt8.ofNat n.toNat).toArray)[(i : Int).toNat]'(by simpa using hi)).toNat : Int) = _
 simp only [Int.toNat_natCast, List.getElem_toArray, List.getElem_map, UInt8.toNat_ofNat']
 omega
def Ysl : Nat → Int → List Int
 | 0, _ => []
 | w + 1, n => Ysl w (n / 2) ++ [48 + n % 2]
theorem Yon : ∀ (w : Nat) (n : Int), (Ysl w n).length = w
 | 0, _ => rfl
 | w + 1, n => by rw [Ysl, List.length_append, Yon w]; rfl
def Xnp (l : List Int) : Prop := ∀ x ∈ l, x = 48 ∨ x = 49
theorem Ynk {a b : List Int} (ha : Xnp a) (hb : Xnp b) : Xnp (a ++ b) := fun x hx => (List.mem_append.1 hx).elim (ha x) (hb x)
theorem Xqc {l : List Int} (h : Xnp l) : Yux l := fun x hx => by rcases h x hx with e | e <;> omega
theorem Ysy : Xnp [] := fun x hx => by simp at hx
theorem Yom : ∀ (w : Nat) (n : Int), Xnp (Ysl w n)
 | 0, _ => Ysy
 | w + 1, n => Ynk (Yom w (n / 2)) (fun x hx => by rw [List.mem_singleton.1 hx]; omega)
theorem Ys5 : ∀ (k : Nat) (n : Int) (s : List Int), 0 ≤ n → n ≤ 9223372036854775807 → k + s.length ≤ 100000 → loop Xh4 (n, (k : Int) - 1, List.replicate k 0 ++ s) = some (Ysl k n ++ s) := by
 intro k
 induction k with
 | zero =>
  intro n s h0 h1 hl
  refine Xda ?_
  unfold Xh4
  simp only
  rw [Xap (by omega)]
  simp [Ysl]
 | succ k ih =>
  intro n s h0 h1 hl
  have e1 : List.replicate (k + 1) (0 : Int) ++ s = List.replicate k 0 ++ 0 :: s := by rw [List.replicate_succ', List.append_assoc]; rfl
  have e2 := Ykm (List.replicate k (0 : Int)) 0 (48 + n % 2) s
  rw [List.length_replicate] at e2
  refine lgo (y := (n / 2, (k : Int) - 1, List.replicate k 0 ++ (48 + n % 2) :: s)) ?_ ?_
  ·
   unfold Xh4
   have e3 : (((k + 1 : Nat) : Int) - 1).toNat = k := by omega
   simp only [e1, e3]
   rw [Xaj (by omega), Xai (by decide), Xai (by simp; omega), Xai (by simp), Xai (by decide), Xca h0, Xbn h0, wk (e := 48 + n % 2) (by omega) (by omega), w8 (by omega) (by omega), e2, wk (by omega) (by omega), wk (by omega) (by omega)]
   rw [show ((k + 1 : Nat) : Int) - 1 - 1 = (k : Int) - 1 by omega]
  ·
   rw [ih (n / 2) ((48 + n % 2) :: s) (by omega) (by omega) (by simp; omega), Ysl, List.append_assoc]; rfl
theorem Yhu (n : Int) (w : Nat) (h0 : 0 ≤ n) (h1 : n ≤ 9223372036854775807) (hw : w ≤ 1000) : Xmz n (w : Int) = some (strOfNums (Ysl w n)) := by
 unfold Xmz
 rw [Xai (by omega), wk (by omega) (by omega), Int.toNat_natCast]
 have := Ys5 w n [] h0 h1 (by simp; omega)
 rw [List.append_nil, List.append_nil] at this
 rw [this, Xad]
theorem Yeu (n : Nat) (x : Int) (h : n ≤ 1000000000) : Xlf (n : Int) x = some (strOfNums (List.replicate n x)) := by
 unfold Xlf
 rw [Xai (by omega), Int.toNat_natCast]
 have key : ∀ (k a : Nat), k + a = n → loop (Xgl (n : Int) x) ((a : Int), List.replicate a x ++ List.replicate k 0) = some (List.replicate n x) := by
  intro k
  induction k with
  | zero =>
   intro a ha
   refine Xda ?_
   unfold Xgl
   simp only
   rw [Xap (by omega)]
   simp; omega
  | succ k ih =>
   intro a ha
   have e2 := Ykm (List.replicate a x) 0 x (List.replicate k 0)
   rw [List.length_replicate] at e2
   refine lgo (y := (((a + 1 : Nat) : Int), List.replicate (a + 1) x ++ List.replicate k 0)) ?_ (ih (a + 1) (by omega))
   unfold Xgl
   simp only [List.replicate_succ (n := k), Int.toNat_natCast]
   rw [Xaj (by omega), Xai (by simp; omega), Xai (by simp), e2, wk (by omega) (by omega), List.replicate_succ' (n := a), List.append_assoc]
   rfl
 have := key n 0 rfl
 rw [List.replicate_zero, List.nil_append] at this
 exact Xgu this
theorem Ysz (x : Int) (h : x = 48 ∨ x = 49) : ((x != 48) && (x != 49)) = false := by rcases h with rfl | rfl <;> rfl
theorem Ypa (l : List Int) (hl : Xnp l) (hn : l.length ≤ 9223372036854775806) (f : Int → Option (Lp Int (Ou Unit Bool)))
  (h : ∀ i : Nat, i < l.length → f (i : Int) = sel (((l.getD i 0) != 48) && ((l.getD i 0) != 49)) (some (.done (.ret false))) (some (.go ((i + 1 : Nat) : Int)))) (h0 : f (l.length : Int) = some (.done (.out ()))) : loop f 0 = some (.out ()) :=
 Xqs l.length (fun i hi => by rw [h i hi, Ysz _ (by rw [Xcb l i hi]; exact hl _ (List.getElem_mem hi)), Xav]) h0
theorem Yhw (l : List Int) (hl : Xnp l) (hn : l.length ≤ 9223372036854775806) : Xkk (strOfNums l) = some true := by
 unfold Xkk
 rw [Ypa l hl hn (Xcx (strOfNums l)) (fun i hi => by
  unfold Xcx
  rw [strOfNums_size, Yli l (Xqc hl) i hi, Xaj (by omega), Xai (by omega), Xai (by omega), Xdx, Xad, wk (by omega) (by omega)]; rfl) (by
  unfold Xcx; rw [strOfNums_size, Xap (by omega)])]
 rfl
theorem Ykw (l : List Int) (hl : Xnp l) (hn : l.length ≤ 400000) : Xhe (strOfNums l) = some true := by
 unfold Xhe
 rw [strOfNums_size, Xaj (by omega), Yhw l hl (by omega), Xad, Xad]
theorem Yjj (l : List Int) (hl : Xnp l) (hn : l.length ≤ 400000) : Xim (strOfNums l) = some true := by
 unfold Xim
 rw [strOfNums_size, Xap (by omega), Ypa l hl (by omega) (Xgx (strOfNums l)) (fun i hi => by
  unfold Xgx
  rw [strOfNums_size, Yli l (Xqc hl) i hi, Xaj (by omega), Xai (by omega), Xai (by omega), Xdx, Xad, wk (by omega) (by omega)]; rfl) (by
  unfold Xgx; rw [strOfNums_size, Xap (by omega)])]
 rfl
def Xnq (l : List Int) : Int := l.foldl (fun x b => 2 * x + b - 48) 0
theorem Yvx (l : List Int) : ∀ x : Int, l.foldl (fun x b => 2 * x + b - 48) x = x * 2 ^ l.length + Xnq l := by
 induction l with
 | nil => intro x; simp [Xnq]
 | cons b l ih =>
  intro x
  unfold Xnq
  rw [List.foldl_cons, List.foldl_cons, ih, ih (2 * 0 + b - 48), List.length_cons, Int.pow_succ]
  have e1 : (2 * x + b - 48) * 2 ^ l.length = 2 * (x * 2 ^ l.length) + (b - 48) * 2 ^ l.length := by
   rw [show 2 * x + b - 48 = 2 * x + (b - 48) by omega, Int.add_mul, Int.mul_assoc]
  have e2 : x * (2 ^ l.length * 2) = 2 * (x * 2 ^ l.length) := by rw [← Int.mul_assoc, Int.mul_comm]
  rw [e1, e2, show (2 : Int) * 0 + b - 48 = b - 48 by omega]
  omega
theorem Yob (a b : List Int) : Xnq (a ++ b) = Xnq a * 2 ^ b.length + Xnq b := by
 show (a ++ b).foldl _ 0 = _
 rw [List.foldl_append]
 exact Yvx b (Xnq a)
theorem Xop {l : List Int} (h : Xnp l) : 0 ≤ Xnq l ∧ Xnq l < 2 ^ l.length := by
 induction l with
 | nil => simp [Xnq]
 | cons b l ih =>
  have h1 := ih (fun x hx => h x (by simp [hx]))
  have h2 := h b (by simp)
  rw [show b :: l = [b] ++ l from rfl, Yob, List.length_append, Int.pow_add, show Xnq [b] = b - 48 by simp [Xnq]]
  have : (2 : Int) ^ [b].length = 2 := rfl
  rw [this]
  rcases h2 with rfl | rfl <;> omega
def Yc6 (k : Int) : Bool := k == 1 || (k == 5 || (k == 7 || k == 8))
theorem Yge (k : Int) : Xmi k = some (Yc6 k) := by
 unfold Xmi Yc6
 simp only [Yil, Xad]
theorem Yez (k : Int) : Xlg k = some (Yc6 k) := by
 unfold Xlg Yc6
 simp only [Yil, Xad]
theorem Ytl {p : Par} (h : Xtp p = true) : 0 ≤ p.Qp ∧ p.Qp ≤ 40 := by
 unfold Xtp at h; rw [Bool.and_eq_true, decide_eq_true_eq] at h; exact h.1
theorem Xso (l : List Int) (hl : l.length ≤ 1048576) : Xkb l = some l := by
 unfold Xkb
 rw [Xai (by omega), Int.toNat_natCast]
 have := Yq6 l (fun p : Int => p) 0 (0 : Int) (f := Xhz l) (by
  intro i o hi ho
  unfold Xhz
  simp only
  rw [Xaj (by omega), Xai (by omega), Xai (by omega), Xai (by omega), wk (by omega) (by omega)]
  rfl) (by
  intro o; unfold Xhz; simp only; rw [Xap (by omega)])
 rw [this, Xad, List.map_id']
theorem Yj4 (s : Seq) (h1 : s.Cols.length ≤ 1048576) (h2 : s.Rows.length ≤ 1048576) : Xoc s = some s := by
 unfold Xoc
 rw [Xso _ h1, Xad, Xso _ h2, Xad]
theorem Xsm (l : List Int) (m : Int) (hl : l.length ≤ maxLen) (h0 : 0 ≤ m) (h1 : m ≤ 1048576) : Xka l m = some (if m < l.length then -1 else m - l.length) := by
 have hm : maxLen = 9223372036854775807 := rfl
 unfold Xka
 rw [wk (by omega) (by omega), Yg0]
 by_cases h : m < l.length
 ·
  rw [if_pos h, if_pos (by omega)]
 ·
  rw [if_neg h, if_neg (by omega)]
theorem Yj1 (s : Seq) (m : Int) (h1 : s.Cols.length ≤ maxLen) (h2 : s.Rows.length ≤ maxLen) (h0 : 0 ≤ m) (hm : m ≤ 1048576) : ∃ t, Xoa s m = some t ∧ t ≤ m ∧ -1 ≤ t ∧ (0 ≤ t → s.Cols.length ≤ 1048576 ∧ s.Rows.length ≤ 1048576) := by
 unfold Xoa
 rw [Xsm _ m h1 h0 hm, Xad]
 by_cases e1 : m < s.Cols.length
 ·
  rw [if_pos e1, Xaj (by omega)]; exact ⟨_, rfl, by omega, by omega, by omega⟩
 ·
  rw [if_neg e1, Xap (by omega), Xsm _ _ h2 (by omega) (by omega), Xad]
  by_cases e2 : m - s.Cols.length < s.Rows.length
  ·
   rw [if_pos e2, Xaj (by omega)]; exact ⟨_, rfl, by omega, by omega, by omega⟩
  ·
   rw [if_neg e2, Xap (by omega)]; exact ⟨_, rfl, by omega, by omega, fun _ => by omega⟩
theorem Xva (p : Pic) (m : Int) (hl : p.Dots.size ≤ maxLen) (h0 : 0 ≤ m) (h1 : m ≤ 1048576) : Xma p m = some (if m < p.Dots.size then -1 else m - p.Dots.size) := by
 have hm : maxLen = 9223372036854775807 := rfl
 unfold Xma
 rw [wk (by omega) (by omega), Yg0]
 by_cases h : m < p.Dots.size
 ·
  rw [if_pos h, if_pos (by omega)]
 ·
  rw [if_neg h, if_neg (by omega)]
def Yv0 (x : Int) : Bool := decide (-5000 ≤ x ∧ x ≤ 5000)
def nz : List Int → Nat
 | [] => 0
 | x :: r => if x = 0 then nz r else nz r + 1
def Yp4 (l : List Int) : Bool := decide (l.length = 64) && l.all Yv0
theorem Yi1 (p : Int → Bool) (l : List Int) (f : Int → Option (Lp Int (Ou Unit Bool))) (h : ∀ i : Nat, i < l.length → f (i : Int) = sel (!(p (l.getD i 0))) (some (.done (.ret false))) (some (.go ((i + 1 : Nat) : Int)))) (h0 : f (l.length : Int) = some (.done (.out ()))) :
  loop f 0 = some (if l.all p = true then .out () else .ret false) := by
 have key : ∀ (r a : List Int), l = a ++ r → loop f (a.length : Int) = some (if r.all p = true then .out () else .ret false) := by
  intro r
  induction r with
  | nil => intro a ha; rw [List.append_nil] at ha; rw [← ha, Xcf h0]; rfl
  | cons x r ih =>
   intro a ha
   have hlen : a.length < l.length := by rw [ha]; simp
   have hx : l.getD a.length 0 = x := by rw [ha]; exact Xov a x _ r
   have hs := h a.length hlen
   rw [hx] at hs
   cases e : p x with
   | true =>
    rw [e] at hs
    have := ih (a ++ [x]) (by rw [ha]; simp)
    rw [List.length_append, List.length_singleton] at this
    rw [Xnl hs, this, List.all_cons, e, Bool.true_and]
   | false => rw [e] at hs; rw [Xcf hs, List.all_cons, e, Bool.false_and]; rfl
 exact key l [] rfl
theorem Yhx (l : List Int) : Xdf l 64 5000 = some (Yp4 l) := by
 unfold Xdf Yp4
 by_cases h : l.length = 64
 ·
  rw [Xbg (by simp only [bne_eq_false_iff_eq]; omega), Yi1 Yv0 l (Xdo l 64 5000) (by
   intro i hi
   unfold Xdo
   rw [Xaj (by omega), Xai (by omega), wk (e := 0 - 5000) (by omega) (by omega), Xak, Xad, wk (by omega) (by omega), Int.toNat_natCast]
   rfl) (by unfold Xdo; rw [Xap (by omega)]), Xad, decide_eq_true h, Bool.true_and]
  cases l.all Yv0 <;> rfl
 ·
  rw [Xb1 (by simp only [bne_iff_ne, ne_eq]; omega), decide_eq_false h, Bool.false_and]
theorem Xlz (l : List Int) (n lo hi : Int) (hl : l.length ≤ 9223372036854775806) : Xds l n lo hi = some (l.all (fun x => decide (lo ≤ x ∧ x ≤ hi)) && ((l.length : Int) == n)) := by
 unfold Xds
 rw [Yi1 (fun x => decide (lo ≤ x ∧ x ≤ hi)) l (Xja l lo hi) (by
   intro i hi
   unfold Xja
   rw [Xaj (by omega), Xai (by omega), Xan, Xad, wk (by omega) (by omega), Int.toNat_natCast]
   rfl) (by unfold Xja; rw [Xap (by omega)]), Xad]
 cases l.all (fun x => decide (lo ≤ x ∧ x ≤ hi)) <;> rfl
theorem Xn0 (l : List Int) (hl : l.length ≤ 9223372036854775806) : Xel l = some (Yp4 l) := by
 unfold Xel Yp4
 rw [Xlz l _ _ _ hl, Xad]
 show some (l.all Yv0 && ((l.length : Int) == 64)) = _
 have : ((l.length : Int) == 64) = decide (l.length = 64) := by rw [Bool.eq_iff_iff]; simp only [beq_iff_eq, decide_eq_true_eq]; omega
 rw [this, Bool.and_comm]
theorem Yp5 {l : List Int} (h : Yp4 l = true) : l.length = 64 ∧ l.all Yv0 = true := by
 unfold Yp4 at h; rw [Bool.and_eq_true, decide_eq_true_eq] at h; exact h
def Xix (c : Xju) : Bool := decide (0 ≤ c.Qp ∧ c.Qp ≤ 40) && !(c.Large && c.Exact)
theorem Xeo (c : Xju) : Xgf c = some (Xix c) := by
 unfold Xgf Xix
 rw [Xak, Xad, Ykl, Xdx, Xad]
 cases c.Large <;> cases c.Exact <;> rfl
theorem Xdk (c : Xju) : Xf7 c = some (Xix c) := by
 unfold Xf7 Xix
 rw [Xan, Xad, Ykl, Xdx, Xad]
 cases c.Large <;> cases c.Exact <;> rfl
def Xq9 (s : Xay) : Bool :=
 if s.Kind = 0 then decide (s.Mode = 0 ∧ s.Dx = 0 ∧ s.Dy = 0 ∧ s.Levels.length = 0)
 else if s.Kind = 1 then decide (s.Mode = 0) && (decide (-16 ≤ s.Dx ∧ s.Dx ≤ 16) && (decide (-16 ≤ s.Dy ∧ s.Dy ≤ 16) && Yp4 s.Levels))
 else if s.Kind = 2 then decide (0 ≤ s.Mode ∧ s.Mode ≤ 3) && (decide (s.Dx = 0) && (decide (s.Dy = 0) && Yp4 s.Levels))
 else false
theorem Yi5 (a b : Int) : (a == b) = decide (a = b) := by rw [Bool.eq_iff_iff]; simp
theorem Xh7 (s : Xay) : Xdj s = some (Xq9 s) := by
 unfold Xdj Xq9
 simp only [Xak, Yhx, Xad, Xdx, Yi5]
 simp only [Yg0]
 by_cases h0 : s.Kind = 0
 ·
  rw [if_pos h0, if_pos h0]; congr 1; rw [Bool.eq_iff_iff]; simp
 ·
  rw [if_neg h0, if_neg h0]
  by_cases h1 : s.Kind = 1
  ·
   rw [if_pos h1, if_pos h1]
  ·
   rw [if_neg h1, if_neg h1]
   by_cases h2 : s.Kind = 2
   ·
    rw [decide_eq_true h2, Bool.true_and, if_pos h2]
   ·
    rw [decide_eq_false h2, Bool.false_and, if_neg h2]
theorem Xfo (s : Xay) (hl : s.Levels.length ≤ 9223372036854775806) : Xfi s = some (Xq9 s) := by
 unfold Xfi Xq9
 simp only [Xan, Xn0 _ hl, Xad, Xdx, Yi5]
 simp only [Yg0]
 by_cases h0 : s.Kind = 0
 ·
  rw [if_pos h0, if_pos h0]; congr 1; rw [Bool.eq_iff_iff]; simp
 ·
  rw [if_neg h0, if_neg h0]
  by_cases h1 : s.Kind = 1
  ·
   rw [if_pos h1, if_pos h1]
  ·
   rw [if_neg h1, if_neg h1]
   by_cases h2 : s.Kind = 2
   ·
    rw [decide_eq_true h2, Bool.true_and, if_pos h2]
   ·
    rw [decide_eq_false h2, Bool.false_and, if_neg h2]
def Xlr (s : Xay) (c : Xju) : Bool := !c.Key || s.Kind == 2
theorem Ym3 {s : Xay} (h : Xq9 s = true) : 0 ≤ s.Kind ∧ s.Kind ≤ 2 := by
 unfold Xq9 at h
 repeat' split at h
 all_goals first | omega | simp at h
theorem Ypg {s : Xay} (h : Xq9 s = true) (h1 : s.Kind = 1) : (-16 ≤ s.Dx ∧ s.Dx ≤ 16) ∧ (-16 ≤ s.Dy ∧ s.Dy ≤ 16) ∧ Yp4 s.Levels = true := by
 unfold Xq9 at h
 rw [if_neg (by omega), if_pos h1] at h
 simp only [Bool.and_eq_true, decide_eq_true_eq] at h
 exact ⟨h.2.1, h.2.2.1, h.2.2.2⟩
theorem Ytu {s : Xay} (h : Xq9 s = true) (h1 : s.Kind = 2) : (0 ≤ s.Mode ∧ s.Mode ≤ 3) ∧ Yp4 s.Levels = true := by
 unfold Xq9 at h
 rw [if_neg (by omega), if_neg (by omega), if_pos h1] at h
 simp only [Bool.and_eq_true, decide_eq_true_eq] at h
 exact ⟨h.1, h.2.2.2⟩
def Ysa (l : List Xay) (c : Xju) : Bool := l.all fun s => Xq9 s && (Xix c && Xlr s c)
theorem Xor (b : ByteArray) (i : Int) : 0 ≤ Xjx b i ∧ Xjx b i ≤ 255 := by
 unfold Xjx
 split
 ·
  rename_i h
  have := (b[i.toNat]'h).toNat_lt
  omega
 ·
  omega
theorem Xbr {p : Pic} (h : Xcp p = true) : (1 ≤ p.Wide ∧ p.Wide ≤ 256) ∧ (1 ≤ p.High ∧ p.High ≤ 256) ∧ (p.Dots.size : Int) = p.Wide * p.High := by
 unfold Xcp at h
 simp only [Bool.and_eq_true, decide_eq_true_eq, beq_iff_eq] at h
 exact ⟨h.1, h.2.1, h.2.2⟩
theorem Xvg {p : Pic} (h1 : 1 ≤ p.Wide ∧ p.Wide ≤ 256) (h2 : 1 ≤ p.High ∧ p.High ≤ 256) (h3 : (p.Dots.size : Int) = p.Wide * p.High) : Xcp p = true := by
 unfold Xcp
 simp only [Bool.and_eq_true, decide_eq_true_eq, beq_iff_eq]
 exact ⟨h1, h2, h3⟩
def Yi9 (p : Pic) (x y : Int) : Int := Xjx p.Dots (Xc0 y 0 (p.High - 1) * p.Wide + Xc0 x 0 (p.Wide - 1))
theorem Xos (p : Pic) (x y : Int) : 0 ≤ Yi9 p x y ∧ Yi9 p x y ≤ 255 := Xor _ _
theorem Ylo {p : Pic} (ok : Xcp p = true) (x y : Int) : 0 ≤ Xc0 y 0 (p.High - 1) * p.Wide + Xc0 x 0 (p.Wide - 1) ∧ Xc0 y 0 (p.High - 1) * p.Wide + Xc0 x 0 (p.Wide - 1) < p.Dots.size ∧ 0 ≤ Xc0 y 0 (p.High - 1) * p.Wide ∧ Xc0 y 0 (p.High - 1) * p.Wide ≤ 65536 := by
 obtain ⟨h1, h2, h3⟩ := Xbr ok
 have b1 := Xl6 (n := y) (a := 0) (b := p.High - 1) (by omega)
 have b2 := Xl6 (n := x) (a := 0) (b := p.Wide - 1) (by omega)
 have m1 := Int.mul_nonneg b1.1 (show 0 ≤ p.Wide by omega)
 have m2 := Int.mul_le_mul_of_nonneg_right b1.2 (show 0 ≤ p.Wide by omega)
 have m3 : (p.High - 1) * p.Wide = p.Wide * p.High - p.Wide := by rw [Int.sub_mul, Int.one_mul, Int.mul_comm]
 have m4 := (Xdq h1 h2).2
 omega
theorem Ycp {p : Pic} (ok : Xcp p = true) (x y : Int) : Xed p x y = some (Yi9 p x y) := by
 obtain ⟨h1, h2, h3⟩ := Xbr ok
 unfold Xed Yi9
 rw [Xi0, Xad, Xi0, Xad, wk (e := p.High - 1) (by omega) (by omega), wk (e := p.Wide - 1) (by omega) (by omega)]
 obtain ⟨p1, p2, p3, p4⟩ := Ylo ok x y
 have b2 := Xl6 (n := x) (a := 0) (b := p.Wide - 1) (by omega)
 have br := Xor p.Dots (Xc0 y 0 (p.High - 1) * p.Wide + Xc0 x 0 (p.Wide - 1))
 rw [wk (e := Xc0 y 0 (p.High - 1) * p.Wide) (by omega) (by omega), wk (e := Xc0 y 0 (p.High - 1) * p.Wide + Xc0 x 0 (p.Wide - 1)) (by omega) (by omega), Xai ⟨p1, p2⟩, wk (by omega) (by omega)]
theorem Xji {p : Pic} (ok : Xcp p = true) (x y : Int) : Xe0 p x y = some (Yi9 p x y) := by
 obtain ⟨h1, h2, h3⟩ := Xbr ok
 unfold Xe0 Yi9
 rw [Xfl, Xad, ok, Bool.not_true, Xav, Xez, Xad, Xez, Xad, wk (e := p.High - 1) (by omega) (by omega), wk (e := p.Wide - 1) (by omega) (by omega)]
 obtain ⟨p1, p2, p3, p4⟩ := Ylo ok x y
 have b2 := Xl6 (n := x) (a := 0) (b := p.Wide - 1) (by omega)
 have br := Xor p.Dots (Xc0 y 0 (p.High - 1) * p.Wide + Xc0 x 0 (p.Wide - 1))
 rw [wk (e := Xc0 y 0 (p.High - 1) * p.Wide) (by omega) (by omega), wk (e := Xc0 y 0 (p.High - 1) * p.Wide + Xc0 x 0 (p.Wide - 1)) (by omega) (by omega), Xai ⟨p1, p2⟩, wk (by omega) (by omega)]
def Ypw (p : Pic) (x y : Int) (i : Nat) : Int := Yi9 p (x + ((i % 8 : Nat) : Int)) (y + ((i / 8 : Nat) : Int))
def Yk5 (p : Pic) (x y : Int) (n : Nat) : List Int := (List.range n).map (Ypw p x y)
theorem Ylh (p : Pic) (x y : Int) (n : Nat) : Yk5 p x y (n + 1) = Yk5 p x y n ++ [Ypw p x y n] := by simp [Yk5, List.range_succ]
theorem Xs5 (p : Pic) (x y : Int) (n : Nat) : (Yk5 p x y n).length = n := by simp [Yk5]
def Ys2 (x : Int) : Bool := decide (0 ≤ x ∧ x ≤ 255)
def Xmd (l : List Int) : Bool := decide (l.length = 64) && l.all Ys2
theorem Xqd {l : List Int} (h : Xmd l = true) : l.length = 64 ∧ ∀ i : Nat, i < 64 → 0 ≤ l.getD i 0 ∧ l.getD i 0 ≤ 255 := by
 simp only [Xmd, Bool.and_eq_true, decide_eq_true_eq] at h
 refine ⟨h.1, fun i hi => ?_⟩
 have := List.all_eq_true.1 h.2 (l.getD i 0) (by rw [Xcb l i (by omega)]; exact List.getElem_mem _)
 simpa [Ys2] using this
theorem Ybl (p : Pic) (x y : Int) : Xmd (Yk5 p x y 64) = true := by
 simp only [Xmd, Xs5, decide_true, Bool.true_and, List.all_eq_true]
 intro z hz
 obtain ⟨i, _, rfl⟩ := List.mem_map.1 hz
 simp only [Ys2, decide_eq_true_eq]
 exact Xos _ _ _
theorem Yd0 {p : Pic} (ok : Xcp p = true) (x y : Int) (hx : -1000 ≤ x ∧ x ≤ 1000) (hy : -1000 ≤ y ∧ y ≤ 1000) : Xlc p x y = some (Yk5 p x y 64) := by
 have hm : maxLen = 9223372036854775807 := rfl
 unfold Xlc
 rw [Xfl, Xad, ok, Xaw, Xak, Xad, Xaj (by omega), Xak, Xad, Xad, decide_eq_true (by omega), Bool.not_true, Xav]
 have key : ∀ i : Nat, i ≤ 64 → loop (Xge p x y) ((i : Int), Yk5 p x y i) = some (Yk5 p x y 64) := by
  refine Xf5 _ ?_ ?_
  ·
   exact Xda (by unfold Xge; rw [Xap (by simp)])
  ·
   intro i hi ih
   refine lgo (y := (((i + 1 : Nat) : Int), Yk5 p x y (i + 1))) ?_ ih
   unfold Xge
   simp only
   rw [Xaj (by omega), Xai (by omega), Xai (by omega), Xca (by omega), Xbn (by omega), wk (e := (i : Int) / 8) (by omega) (by omega), wk (e := x + (i : Int) % 8) (by omega) (by omega), wk (e := y + (i : Int) / 8) (by omega) (by omega), Xji ok, Xad, Xai (by rw [Xs5]; simp only [List.length_singleton]; omega), wk (e := (i : Int) + 1) (by omega) (by omega)]
   have e2 : Yi9 p (x + (i : Int) % 8) (y + (i : Int) / 8) = Ypw p x y i := by unfold Ypw; congr 1
   rw [e2, ← Ylh]
   rfl
 have := key 0 (by omega)
 exact (Xgu this).trans rfl
theorem Xuw {p : Pic} (ok : Xcp p = true) (x y : Int) (hx : -1000 ≤ x ∧ x ≤ 1000) (hy : -1000 ≤ y ∧ y ≤ 1000) : Xfx p x y = some (Yk5 p x y 64) := by
 have hm : maxLen = 9223372036854775807 := rfl
 unfold Xfx
 rw [Xai (by omega)]
 have key : ∀ r : Nat, r ≤ 8 → loop (Xeb p x y) ((r : Int), Yk5 p x y (8 * r)) = some (Yk5 p x y 64) := by
  refine Xf5 _ ?_ ?_
  ·
   exact Xda (by unfold Xeb; rw [Xap (by simp)])
  ·
   intro r hr ih
   refine lgo (y := (((r + 1 : Nat) : Int), Yk5 p x y (8 * (r + 1)))) ?_ ih
   unfold Xeb
   simp only
   have inner : ∀ c : Nat, c ≤ 8 → loop (Xec p x y ((r : Int), Yk5 p x y (8 * r))) ((c : Int), Yk5 p x y (8 * r + c)) = some (Yk5 p x y (8 * (r + 1))) := by
    refine Xf5 _ ?_ ?_
    ·
     exact Xda (by unfold Xec; rw [Xap (by simp)]; rfl)
    ·
     intro c hc ih2
     refine lgo (y := (((c + 1 : Nat) : Int), Yk5 p x y (8 * r + (c + 1)))) ?_ ih2
     unfold Xec
     simp only
     rw [Xaj (by omega), wk (e := x + (c : Int)) (by omega) (by omega), wk (e := y + (r : Int)) (by omega) (by omega), Ycp ok, Xad, Xai (by rw [Xs5]; simp only [List.length_singleton]; omega), wk (e := (c : Int) + 1) (by omega) (by omega)]
     have e2 : Yi9 p (x + (c : Int)) (y + (r : Int)) = Ypw p x y (8 * r + c) := by
      unfold Ypw
      rw [show (8 * r + c) % 8 = c by omega, show (8 * r + c) / 8 = r by omega]
     rw [e2, ← Ylh]
     rfl
   have i0 := inner 0 (by omega)
   rw [Xaj (by omega)]
   refine (Xgu i0).trans ?_
   rw [wk (e := (r : Int) + 1) (by omega) (by omega)]
   rfl
 have := key 0 (by omega)
 exact (Xgu this).trans rfl
theorem Ycn (l : List Int) (hl : l.length ≤ 9223372036854775806) : Xds l 64 0 255 = some (Xmd l) := by
 rw [Xlz l _ _ _ hl]
 have : ((l.length : Int) == 64) = decide (l.length = 64) := by rw [Bool.eq_iff_iff]; simp only [beq_iff_eq, decide_eq_true_eq]; omega
 rw [this, Bool.and_comm]
 rfl
def Xky (p : Pic) (x y : Int) : Bool := decide (0 ≤ x ∧ x ≤ p.Wide - 8 ∧ 0 ≤ y ∧ y ≤ p.High - 8)
theorem Xzc {p : Pic} (ok : Xcp p = true) (x y : Int) (hx : x.tmod 8 = 0) (hy : y.tmod 8 = 0) (h : Xky p x y = true) : Xcq p x y = some true := by
 obtain ⟨k1, k2, k3⟩ := Xbr ok
 unfold Xky at h
 rw [decide_eq_true_eq] at h
 unfold Xcq
 rw [Xai (by omega), hx, Xai (by omega), hy, wk (e := p.Wide - 8) (by omega) (by omega), wk (e := p.High - 8) (by omega) (by omega), Xan, Xad, Xan, Xad, decide_eq_true (by omega), decide_eq_true (by omega)]
 rfl
theorem Xrp (s : ByteArray) : strOfNums (Xbo s) = s := by
 apply ByteArray.ext
 apply Array.ext'
 simp only [strOfNums, Xbo, List.map_map]
 conv => rhs; rw [← List.map_id s.data.toList]
 refine List.map_congr_left fun c _ => ?_
 simp
theorem Yiq {a b : ByteArray} : a.toList = b.toList ↔ a = b := by
 constructor
 ·
  intro h
  rw [ByteArray.toList_eq, ByteArray.toList_eq] at h
  exact ByteArray.ext (Array.ext' h)
 ·
  intro h; rw [h]
def inB (B : Int) (l : List Int) : Prop := ∀ x ∈ l, -B ≤ x ∧ x ≤ B
theorem Yjt {B C : Int} {l : List Int} (h : inB B l) (hc : B ≤ C) : inB C l := fun x hx => by have := h x hx; omega
theorem Xw4 {B : Int} {a b : List Int} (ha : inB B a) (hb : inB B b) : inB B (a ++ b) := fun x hx => (List.mem_append.1 hx).elim (ha x) (hb x)
theorem Ynq (B : Int) : inB B [] := fun x hx => by simp at hx
theorem Yrb {B x : Int} (h : -B ≤ x ∧ x ≤ B) : inB B [x] := fun y hy => by rw [List.mem_singleton.1 hy]; exact h
theorem Yns {B : Int} {l : List Int} (h : inB B l) (i : Nat) {y : Int} (hy : -B ≤ y ∧ y ≤ B) : inB B (l.set i y) := fun x hx => by
 rcases List.mem_or_eq_of_mem_set hx with hx | hx
 ·
  exact h x hx
 ·
  rw [hx]; exact hy
theorem Ynr (n : Nat) {B : Int} (h : 0 ≤ B) : inB B (List.replicate n 0) := fun x hx => by rw [List.eq_of_mem_replicate hx]; omega
theorem Xqm {B : Int} {l : List Int} (h : inB B l) {i : Nat} (hi : i < l.length) : -B ≤ l.getD i 0 ∧ l.getD i 0 ≤ B := h _ (by rw [Xcb l i hi]; exact List.getElem_mem _)
theorem Yos {B : Int} {l : List Int} (h : inB B l) (n : Nat) : inB B (l.take n) := fun x hx => h x (List.mem_of_mem_take hx)
theorem Yor {B : Int} {l : List Int} (h : inB B l) (n : Nat) : inB B (l.drop n) := fun x hx => h x (List.mem_of_mem_drop hx)
theorem Xeu {S : Type} {f : Int × S → Option (Lp (Int × S) S)} (n : Nat) (I : Nat → S → Prop) (hs : ∀ (i : Nat) (l : S), i < n → I i l → ∃ l', f ((i : Int), l) = some (.go (((i + 1 : Nat) : Int), l')) ∧ I (i + 1) l') (he : ∀ l, f ((n : Int), l) = some (.done l)) (l0 : S) (h0 : I 0 l0) : ∃ o, loop f (0, l0) = some o ∧ I n o := by
 have key : ∀ i : Nat, i ≤ n → ∀ l, I i l → ∃ o, loop f ((i : Int), l) = some o ∧ I n o := by
  refine Xf5 _ ?_ ?_
  ·
   intro l h; exact ⟨l, Xda (he l), h⟩
  ·
   intro i hi ih l h
   obtain ⟨l', e, h'⟩ := hs i l hi h
   obtain ⟨o, e2, h2⟩ := ih l' h'
   exact ⟨o, lgo e e2, h2⟩
 exact key 0 (by omega) l0 h0
theorem Xm3 {S : Type} {f : S × Int → Option (Lp (S × Int) S)} (n : Nat) (I : Nat → S → Prop) (hs : ∀ (i : Nat) (l : S), i < n → I i l → ∃ l', f (l, (i : Int)) = some (.go (l', ((i + 1 : Nat) : Int))) ∧ I (i + 1) l') (he : ∀ l, f (l, (n : Int)) = some (.done l)) (l0 : S) (h0 : I 0 l0) : ∃ o, loop f (l0, 0) = some o ∧ I n o := by
 have key : ∀ i : Nat, i ≤ n → ∀ l, I i l → ∃ o, loop f (l, (i : Int)) = some o ∧ I n o := by
  refine Xf5 _ ?_ ?_
  ·
   intro l h; exact ⟨l, Xda (he l), h⟩
  ·
   intro i hi ih l h
   obtain ⟨l', e, h'⟩ := hs i l hi h
   obtain ⟨o, e2, h2⟩ := ih l' h'
   exact ⟨o, lgo e e2, h2⟩
 exact key 0 (by omega) l0 h0
theorem Xfg (l : List Int) (i j : Nat) (y : Int) (hi : i < l.length) : (l.set i y).getD j 0 = if i = j then y else l.getD j 0 := by
 rw [List.getD_eq_getElem?_getD, List.getElem?_set, List.getD_eq_getElem?_getD]
 by_cases h : i = j
 ·
  subst h; rw [if_pos rfl, if_pos rfl, if_pos hi]; rfl
 ·
  rw [if_neg h, if_neg h]
theorem Xrk {f : Int × List Int → Option (Lp (Int × List Int) (List Int))} (n : Nat) (P Q : Int → Prop) (hs : ∀ (i : Nat) (l : List Int), i < n → l.length = n → P (l.getD i 0) → ∃ y, f ((i : Int), l) = some (.go (((i + 1 : Nat) : Int), l.set i y)) ∧ Q y) (he : ∀ l, f ((n : Int), l) = some (.done l)) (l0 : List Int) (h0 : l0.length = n) (hb : ∀ x ∈ l0, P x) : ∃ o, loop f (0, l0) = some o ∧ o.length = n ∧ ∀ x ∈ o, Q x := by
 obtain ⟨o, e, h1, h2, _⟩ := Xeu (f := f) n (fun i l => l.length = n ∧ (∀ j, j < i → Q (l.getD j 0)) ∧ ∀ j, i ≤ j → j < n → P (l.getD j 0)) (by
  intro i l hi ⟨g1, g2, g3⟩
  obtain ⟨y, e, hy⟩ := hs i l hi g1 (g3 i (Nat.le_refl _) hi)
  refine ⟨_, e, by rw [List.length_set]; exact g1, fun j hj => ?_, fun j hj hj2 => ?_⟩
  ·
   rw [Xfg l i j y (by omega)]
   by_cases h : i = j
   ·
    rw [if_pos h]; exact hy
   ·
    rw [if_neg h]; exact g2 j (by omega)
  ·
   rw [Xfg l i j y (by omega), if_neg (by omega)]; exact g3 j (by omega) hj2) he l0 ⟨h0, fun j hj => by omega, fun j _ hj => hb _ (by rw [Xcb l0 j (by omega)]; exact List.getElem_mem _)⟩
 refine ⟨o, e, h1, fun x hx => ?_⟩
 obtain ⟨j, hj, rfl⟩ := List.getElem_of_mem hx
 have := h2 j (by omega)
 rwa [Xcb o j hj] at this
theorem Xio (l : List Int) (n B : Int) (hn : (l.length : Int) = n) (hn2 : n ≤ 1000000) (hB : 0 ≤ B ∧ B ≤ 100000000) (h : inB B l) : Xdf l n B = some true := by
 unfold Xdf
 rw [Xbg (by simp only [bne_eq_false_iff_eq]; exact hn), Xqs l.length (f := Xdo l n B) (by
  intro i hi
  have := Xqm h hi
  unfold Xdo
  rw [Xaj (by omega), Xai (by omega), wk (e := 0 - B) (by omega) (by omega), Xak, Xad, Int.toNat_natCast, decide_eq_true (by omega), Bool.not_true, Xav, wk (by omega) (by omega)]
  rfl) (by unfold Xdo; rw [Xap (by omega)]), Xad]
def Xvl (n i : Int) (v17 : Int × Int) : Option (Lp (Int × Int) (Ou Unit Int)) :=
 sel (decide (v17.2 ≤ (Xaa .i64 ((Xaa .i64 (2 * n)) - 2)))) (
 bnd (it (Xmw n i v17) 20 (v17.1, 0)) fun o47 => match o47 with
 | .out v43 => (
 some (.go (v43, Xaa .i64 (v17.2 + 1))))
 | .ret r => some (.done (.ret r))) (
 some (.done (.out ())))
theorem Ymz {n i : Int} {v : Int × Int} {x : Lp (Int × Int) (Ou Unit Int)} (h : Xvl n i v = some x) : Xjk n i v = some x := by
 unfold Xvl at h
 unfold Xjk
 rcases Xpc h with ⟨hb, h⟩ | ⟨hb, h⟩
 ·
  rw [hb, Xaw]
  obtain ⟨a, h1, h2⟩ := Xa7 h
  rw [Xhn.2 ⟨20, h1⟩, Xad]
  exact h2
 ·
  rw [hb, Xav]; exact h
theorem Ytb {V O : Type} {f g : V → Option (Lp V O)} (hf : ∀ v y, f v = some y → g v = some y) {o : O} : ∀ (k : Nat) (v : V), it f k v = some o → it g k v = some o
 | 0, v, h => by cases h
 | k + 1, v, h => by
  rw [it] at h ⊢
  cases e : f v with
  | none => rw [e] at h; cases h
  | some s =>
   rw [e] at h
   rw [hf v s e]
   cases s with
   | go y => exact Ytb hf k y h
   | done o' => exact h
def Xgc (n i : Int) : Int := match it (Xvl n i) 20 (0, 0) with | some (.ret q) => q | _ => -1
theorem Ytq : ∀ i : Fin 16, (0 ≤ Xgc 4 (i.val : Int) ∧ Xgc 4 (i.val : Int) < 16) := by decide +kernel
theorem Ytr : ∀ i : Fin 64, (0 ≤ Xgc 8 (i.val : Int) ∧ Xgc 8 (i.val : Int) < 64) := by decide +kernel
theorem Xm9 (n : Int) (hn : n = 4 ∨ n = 8) (i : Nat) (hi : (i : Int) < n * n) : 0 ≤ Xgc n i ∧ Xgc n i < n * n := by
 rcases hn with rfl | rfl
 ·
  exact Ytq ⟨i, by omega⟩
 ·
  exact Ytr ⟨i, by omega⟩
theorem Xno (n : Int) (hn : n = 4 ∨ n = 8) (i : Nat) (hi : (i : Int) < n * n) : Xmv n i = some (Xgc n i) := by
 have hp := Xm9 n hn i hi
 unfold Xmv
 have hw : Xaa .i64 (n * n) = n * n := by rcases hn with rfl | rfl <;> exact wk (by omega) (by omega)
 have hc : (sel (n != 4) (sel (n != 8) (some true) (sel (decide ((i : Int) < 0)) (some true) (some (decide ((i : Int) ≥ (Xaa .i64 (n * n))))))) (sel (decide ((i : Int) < 0)) (some true) (some (decide ((i : Int) ≥ (Xaa .i64 (n * n))))))) = some false := by
  rw [hw, Xap (show ¬ (i : Int) < 0 by omega), decide_eq_false (show ¬ (i : Int) ≥ n * n by omega)]
  rcases hn with rfl | rfl <;> rfl
 rw [hc, Xad, Xav]
 unfold Xgc at hp ⊢
 cases e : it (Xvl n i) 20 (0, 0) with
 | none => rw [e] at hp; simp only at hp; omega
 | some s =>
  rw [e] at hp
  have h := Ytb (fun v y => Ymz (n := n) (i := i)) 20 _ e
  rw [Xhn.2 ⟨20, h⟩, Xad]
  cases s with
  | out u => simp only at hp; omega
  | ret q => rfl
theorem Xe3 (n : Int) (hn : n = 4 ∨ n = 8) (l : List Int) (B : Int) (hB : 0 ≤ B) (hl : (l.length : Int) = n * n) (hb : inB B l) : ∃ o, Xcw n l = some (o, true) ∧ o.length = l.length ∧ inB B o := by
 have hm : maxLen = 9223372036854775807 := rfl
 have hw : Xaa .i64 (n * n) = n * n := by rcases hn with rfl | rfl <;> exact wk (by omega) (by omega)
 have hl2 : l.length ≤ 64 := by rcases hn with rfl | rfl <;> omega
 unfold Xcw
 have hc : (sel (n != 4) (sel (n != 8) (some true) (some ((l.length : Int) != (Xaa .i64 (n * n))))) (some ((l.length : Int) != (Xaa .i64 (n * n))))) = some false := by
  rw [hw, hl, bne_self_eq_false]
  rcases hn with rfl | rfl <;> rfl
 rw [hc, Xad, Xav, Xai (by omega), Int.toNat_natCast]
 obtain ⟨o, e, h1, h2⟩ := Xeu (f := Xb6 n l) l.length (fun i s => s.length = l.length ∧ inB B s) (by
  intro i s hi ⟨g1, g2⟩
  have hp := Xm9 n hn i (by omega)
  have ha := Xqm hb hi
  unfold Xb6
  simp only
  rw [hw, Xaj (by omega), Xno n hn i (by omega), Xad, Xai (by omega), Xai (by omega), Xai (by omega), wk (by omega) (by omega), Int.toNat_natCast]
  exact ⟨_, rfl, by rw [List.length_set]; exact g1, Yns g2 _ ha⟩) (by intro s; unfold Xb6; simp only; rw [hw, Xap (by omega)]) (List.replicate l.length 0) ⟨List.length_replicate, Ynr _ hB⟩
 exact ⟨o, (Xgu e).trans rfl, h1, h2⟩
def Xh0 (u v : Int) : Int := match it Xh1 10 (1, (IntKind.wrap .i64 (BitVec.ofInt (IntKind.bits .i64) u &&& BitVec.ofInt (IntKind.bits .i64) v).toNat)) with | some q => q | none => 7
theorem Yr7 : ∀ u v : Fin 8, (-1 ≤ Xh0 (u.val : Int) (v.val : Int) ∧ Xh0 (u.val : Int) (v.val : Int) ≤ 1) := by decide +kernel
theorem Xsx (u v : Nat) (hu : u < 8) (hv : v < 8) : ∃ s, Xgj u v = some s ∧ -1 ≤ s ∧ s ≤ 1 := by
 have h := Yr7 ⟨u, hu⟩ ⟨v, hv⟩
 simp only at h
 unfold Xgj
 rw [Xak, Xad, decide_eq_true (by omega), Xaw, Xak, Xad, decide_eq_true (by omega), Bool.not_true, Xad, Xav]
 unfold Xh0 at h
 cases e : it Xh1 10 (1, (IntKind.wrap .i64 (BitVec.ofInt (IntKind.bits .i64) (u : Int) &&& BitVec.ofInt (IntKind.bits .i64) (v : Int)).toNat)) with
 | none => rw [e] at h; simp only at h; omega
 | some q =>
  rw [e] at h
  rw [Xhn.2 ⟨10, e⟩, Xad]
  exact ⟨q, rfl, h⟩
def Xpf (qp : Int) : Int := if qp.tmod 6 = 0 then 10 else if qp.tmod 6 = 1 then 11 else if qp.tmod 6 = 2 then 13 else if qp.tmod 6 = 3 then 14 else if qp.tmod 6 = 4 then 16 else 18
def Xm2 (qp : Int) : Int := match it (Xh3 qp) 10 (Xpf qp, 0) with | some q => q | none => 0
theorem Ysb : ∀ q : Fin 41, (10 ≤ Xm2 (q.val : Int) ∧ Xm2 (q.val : Int) ≤ 1152) := by decide +kernel
theorem Yhp (qp : Int) (h0 : 0 ≤ qp ∧ qp ≤ 40) : ∃ s, Xgk qp = some s ∧ 10 ≤ s ∧ s ≤ 1152 := by
 have h := Ysb ⟨qp.toNat, by omega⟩
 simp only at h
 rw [show ((qp.toNat : Nat) : Int) = qp by omega] at h
 unfold Xgk
 rw [Xak, Xad, decide_eq_true (by omega), Bool.not_true, Xav, Xai (by omega)]
 have hb : (sel ((qp.tmod 6) == 0) (some (10 : Int)) (sel ((qp.tmod 6) == 1) (some 11) (sel ((qp.tmod 6) == 2) (some 13) (sel ((qp.tmod 6) == 3) (some 14) (sel ((qp.tmod 6) == 4) (some 16) (some 18)))))) = some (Xpf qp) := by
  unfold Xpf
  simp only [Ykk, beq_iff_eq]
  repeat' split
  all_goals rfl
 rw [hb, Xad]
 unfold Xm2 at h
 cases e : it (Xh3 qp) 10 (Xpf qp, 0) with
 | none => rw [e] at h; simp only at h; omega
 | some q =>
  rw [e] at h
  rw [Xhn.2 ⟨10, e⟩, Xad]
  exact ⟨q, rfl, h⟩
theorem Xsu (p : Int) (h : 0 ≤ p ∧ p ≤ 15) : ∃ k, Xkh p = some k ∧ 0 ≤ k ∧ k ≤ 2 := by
 unfold Xkh
 rw [Xak, Xad, decide_eq_true h, Bool.not_true, Xav, Xai (by omega), Xai (by omega), Xai (by omega), Xai (by omega), Xdx, Xad]
 cases ((Xaa .i64 (p.tdiv 4)).tmod 2 == 0 && (p.tmod 4).tmod 2 == 0) with
 | true => exact ⟨0, rfl, by omega, by omega⟩
 | false =>
  rw [Xav, Xdx, Xad]
  cases ((Xaa .i64 (p.tdiv 4)).tmod 2 == 1 && (p.tmod 4).tmod 2 == 1) with
  | true => exact ⟨1, rfl, by omega, by omega⟩
  | false => exact ⟨2, rfl, by omega, by omega⟩
theorem Xbm (k a b c : Int) : ∃ x, Xbp k a b c = some x ∧ (x = a ∨ x = b ∨ x = c) := by
 unfold Xbp
 cases (k == 0) with
 | true => exact ⟨a, rfl, Or.inl rfl⟩
 | false =>
  cases (k == 1) with
  | true => exact ⟨b, rfl, Or.inr (Or.inl rfl)⟩
  | false => exact ⟨c, rfl, Or.inr (Or.inr rfl)⟩
theorem Yqc (qp : Int) (h0 : 0 ≤ qp ∧ qp ≤ 40) (x : Int) (hx : 0 ≤ x ∧ x ≤ 29) : ∃ o, loop (Xd0 qp) (x, 0) = some o ∧ 0 ≤ o ∧ o ≤ 1856 := by
 obtain ⟨o, e, h1, h2⟩ := Xm3 (f := Xd0 qp) (qp / 6).toNat (fun i s => 0 ≤ s ∧ s ≤ 29 * 2 ^ i) (by
  intro i s hi ⟨g1, g2⟩
  have h6 : (2 : Int) ^ i ≤ 64 := by
   have : i ≤ 6 := by omega
   obtain rfl | rfl | rfl | rfl | rfl | rfl | rfl : i = 0 ∨ i = 1 ∨ i = 2 ∨ i = 3 ∨ i = 4 ∨ i = 5 ∨ i = 6 := by omega
   all_goals decide
  have h7 : (2 : Int) ^ (i + 1) = 2 * 2 ^ i := by rw [Int.pow_succ, Int.mul_comm]
  unfold Xd0
  simp only
  rw [Xai (by omega), Xbn (by omega), wk (e := qp / 6) (by omega) (by omega), Xaj (by omega), wk (e := 2 * s) (by omega) (by omega), wk (e := (i : Int) + 1) (by omega) (by omega)]
  exact ⟨_, rfl, by omega, by rw [h7]; omega⟩) (by intro s; unfold Xd0; simp only; rw [Xai (by omega), Xbn (by omega), wk (e := qp / 6) (by omega) (by omega), Xap (by omega)]) x ⟨hx.1, by simp; omega⟩
 have h6 : (2 : Int) ^ (qp / 6).toNat ≤ 64 := by
  generalize hi : (qp / 6).toNat = i
  obtain rfl | rfl | rfl | rfl | rfl | rfl | rfl : i = 0 ∨ i = 1 ∨ i = 2 ∨ i = 3 ∨ i = 4 ∨ i = 5 ∨ i = 6 := by omega
  all_goals decide
 exact ⟨o, e, h1, by omega⟩
theorem Yek (qp p : Int) (h0 : 0 ≤ qp ∧ qp ≤ 40) (hp : 0 ≤ p ∧ p ≤ 15) : ∃ s, Xgi qp p = some s ∧ 0 ≤ s ∧ s ≤ 1856 := by
 unfold Xgi
 obtain ⟨k, e, k0, k1⟩ := Xsu p hp
 rw [e, Xad, Xak, Xad, decide_eq_true h0, Xaw, decide_eq_false (by omega), Xad, Xav, Xai (by omega)]
 obtain ⟨a1, e1, b1⟩ := Xbm k 10 16 13
 obtain ⟨a2, e2, b2⟩ := Xbm k 11 18 14
 obtain ⟨a3, e3, b3⟩ := Xbm k 13 20 16
 obtain ⟨a4, e4, b4⟩ := Xbm k 14 23 18
 obtain ⟨a5, e5, b5⟩ := Xbm k 16 25 20
 obtain ⟨a6, e6, b6⟩ := Xbm k 18 29 23
 rw [e1, e2, e3, e4, e5, e6]
 simp only [Xad, Yr6]
 obtain ⟨o, eo, o1, o2⟩ := Yqc qp h0 (sel (qp.tmod 6 == 0) a1 (sel (qp.tmod 6 == 1) a2 (sel (qp.tmod 6 == 2) a3 (sel (qp.tmod 6 == 3) a4 (sel (qp.tmod 6 == 4) a5 (sel (qp.tmod 6 == 5) a6 0)))))) (by
  simp only [Ykk]
  repeat' split
  all_goals omega)
 exact ⟨o, (Xgu eo).trans rfl, o1, o2⟩
theorem Yo6 {a s B : Int} (ha : -B ≤ a ∧ a ≤ B) (hs : -1 ≤ s ∧ s ≤ 1) : (-B ≤ a * s ∧ a * s ≤ B) ∧ (-B ≤ s * a ∧ s * a ≤ B) := by
 obtain rfl | rfl | rfl : s = -1 ∨ s = 0 ∨ s = 1 := by omega
 all_goals omega
theorem Yh0 (p : List Int) (B : Int) (hB : 0 ≤ B ∧ B ≤ 1000000000000) (hl : p.length = 64) (hb : inB B p) (i v : Nat) (hi : i < 8) (hv : v < 8) : ∃ o, Xie p i v = some o ∧ -(8 * B) ≤ o ∧ o ≤ 8 * B := by
 unfold Xie
 obtain ⟨o, e, h1, h2⟩ := Xm3 (f := Xdp p i v) 8 (fun k s => -(B * k) ≤ s ∧ s ≤ B * k) (by
  intro k s hk ⟨g1, g2⟩
  obtain ⟨q, eq, q0, q1⟩ := Xsx v k hv hk
  have ha := Xqm hb (i := 8 * i + k) (by omega)
  have hm := (Yo6 ha ⟨q0, q1⟩).1
  have hk8 : B * k ≤ B * 8 := Int.mul_le_mul_of_nonneg_left (by omega) hB.1
  have hk0 : B * ((k + 1 : Nat) : Int) = B * k + B := by rw [Int.natCast_add, Int.mul_add]; simp
  unfold Xdp
  simp only
  rw [Xaj (by omega), wk (e := 8 * (i : Int)) (by omega) (by omega), wk (e := 8 * (i : Int) + (k : Int)) (by omega) (by omega), Xai (by omega), eq, Xad, show (8 * (i : Int) + (k : Int)).toNat = 8 * i + k by omega, wk (e := p.getD (8 * i + k) 0 * q) (by omega) (by omega), wk (e := s + p.getD (8 * i + k) 0 * q) (by omega) (by omega), wk (e := (k : Int) + 1) (by omega) (by omega)]
  exact ⟨_, rfl, by rw [hk0]; omega, by rw [hk0]; omega⟩) (by intro s; unfold Xdp; rw [Xap (by simp)]) 0 (by simp)
 exact ⟨o, (Xgu e).trans rfl, by omega, by omega⟩
theorem Ye4 (p : List Int) (B : Int) (hB : 0 ≤ B ∧ B ≤ 10000000000) (hl : p.length = 64) (hb : inB B p) : ∃ o, Xgo p = some o ∧ o.length = 64 ∧ inB (64 * B) o := by
 have hm : maxLen = 9223372036854775807 := rfl
 unfold Xgo
 obtain ⟨h, eh, hh1, hh2⟩ := Xeu (f := Xcl p) 8 (fun i s => s.length = 8 * i ∧ inB (8 * B) s) (by
  intro i s hi ⟨g1, g2⟩
  obtain ⟨t, et, t1, t2⟩ := Xeu (f := Xcm p ((i : Int), s)) 8 (fun v s => s.length = 8 * i + v ∧ inB (8 * B) s) (by
   intro v s hv ⟨g1, g2⟩
   obtain ⟨r, er, r1, r2⟩ := Yh0 p B ⟨hB.1, by omega⟩ hl hb i v hi hv
   unfold Xcm
   simp only
   rw [Xaj (by omega), er, Xad, Xai (by simp only [List.length_singleton]; omega), wk (e := (v : Int) + 1) (by omega) (by omega)]
   exact ⟨_, rfl, by simp; omega, Xw4 g2 (Yrb ⟨by omega, r2⟩)⟩) (by intro s; unfold Xcm; rw [Xap (by simp)]) s ⟨by omega, g2⟩
  unfold Xcl
  simp only
  rw [Xaj (by omega), et, Xad, wk (e := (i : Int) + 1) (by omega) (by omega)]
  exact ⟨_, rfl, by omega, t2⟩) (by intro s; unfold Xcl; rw [Xap (by simp)]) [] ⟨rfl, Ynq _⟩
 rw [eh, Xad]
 obtain ⟨o, eo, o1, o2⟩ := Xeu (f := Xb7 h) 8 (fun i s => s.length = 8 * i ∧ inB (64 * B) s) (by
  intro i s hi ⟨g1, g2⟩
  obtain ⟨t, et, t1, t2⟩ := Xeu (f := Xb8 h ((i : Int), s)) 8 (fun v s => s.length = 8 * i + v ∧ inB (64 * B) s) (by
   intro v r hv ⟨g1, g2⟩
   obtain ⟨a, ea, a1, a2⟩ := Xm3 (f := Xb9 h ((i : Int), s) ((v : Int), r)) 8 (fun k s => -(8 * B * k) ≤ s ∧ s ≤ 8 * B * k) (by
    intro k c hk ⟨g1, g2⟩
    obtain ⟨q, eq, q0, q1⟩ := Xsx i k hi hk
    have ha := Xqm hh2 (i := 8 * k + v) (by omega)
    have hm := (Yo6 ha ⟨q0, q1⟩).2
    have hk8 : 8 * B * k ≤ 8 * B * 8 := Int.mul_le_mul_of_nonneg_left (by omega) (by omega)
    have hk0 : 8 * B * ((k + 1 : Nat) : Int) = 8 * B * k + 8 * B := by rw [Int.natCast_add, Int.mul_add]; simp
    unfold Xb9
    simp only
    rw [Xaj (by omega), eq, Xad, wk (e := 8 * (k : Int)) (by omega) (by omega), wk (e := 8 * (k : Int) + (v : Int)) (by omega) (by omega), Xai (by omega), Xai (by omega), show (8 * (k : Int) + (v : Int)).toNat = 8 * k + v by omega, wk (e := q * h.getD (8 * k + v) 0) (by omega) (by omega), wk (e := c + q * h.getD (8 * k + v) 0) (by omega) (by omega), wk (e := (k : Int) + 1) (by omega) (by omega)]
    exact ⟨_, rfl, by rw [hk0]; omega, by rw [hk0]; omega⟩) (by intro s; unfold Xb9; rw [Xap (by simp)]) 0 (by simp)
   unfold Xb8
   simp only
   rw [Xaj (by omega), ea, Xad, Xai (by simp only [List.length_singleton]; omega), wk (e := (v : Int) + 1) (by omega) (by omega)]
   exact ⟨_, rfl, by simp; omega, Xw4 g2 (Yrb ⟨by omega, by omega⟩)⟩) (by intro s; unfold Xb8; rw [Xap (by simp)]) s ⟨by omega, g2⟩
  unfold Xb7
  simp only
  rw [Xaj (by omega), et, Xad, wk (e := (i : Int) + 1) (by omega) (by omega)]
  exact ⟨_, rfl, by omega, t2⟩) (by intro s; unfold Xb7; rw [Xap (by simp)]) [] ⟨rfl, Ynq _⟩
 exact ⟨o, (Xgu eo).trans rfl, by omega, o2⟩
theorem Xjs (a b : Int) (ha : -1000000000000 ≤ a ∧ a ≤ 1000000000000) (hb : b = 2 ∨ b = 64) : ∃ d, Xck a b = some d ∧ b * d ≤ a ∧ a < b * d + b := by
 unfold Xck
 have h1 : b * (a.tdiv b) + a.tmod b = a := Int.mul_tdiv_add_tmod a b
 have h2 : -b < a.tmod b ∧ a.tmod b < b := by
  have hb0 : 0 < b := by omega
  refine ⟨?_, Int.tmod_lt_of_pos a hb0⟩
  have := Int.lt_tmod_of_pos a hb0
  omega
 rw [Xai (by omega), Xai (by omega)]
 generalize a.tmod b = m at h1 h2
 generalize a.tdiv b = t at h1 h2
 have ht : -1000000000001 ≤ t ∧ t ≤ 1000000000001 := by rcases hb with rfl | rfl <;> omega
 by_cases h : m < 0
 ·
  rw [Xaj h, Xad, wk (e := t) (by omega) (by omega), wk (e := t - 1) (by omega) (by omega)]
  refine ⟨_, rfl, ?_⟩
  rcases hb with rfl | rfl <;> omega
 ·
  rw [Xap h, Xad, wk (e := t) (by omega) (by omega)]
  refine ⟨_, rfl, ?_⟩
  rcases hb with rfl | rfl <;> omega
theorem Xxg (p : List Int) (hl : p.length = 64) (hb : inB 5760000 p) : ∃ o, Xep p = some o ∧ o.length = 64 ∧ inB 10000000 o := by
 unfold Xep
 obtain ⟨o, e, h1, h2⟩ := Ye4 p 5760000 (by omega) hl hb
 rw [Xio p 64 10000000 (by omega) (by omega) (by omega) (Yjt hb (by omega)), Xad, Bool.not_true, Xav, e, Xad]
 obtain ⟨r, er, r1, r2⟩ := Xrk (f := Xe1) 64 (fun x => -368640000 ≤ x ∧ x ≤ 368640000) (fun x => -10000000 ≤ x ∧ x ≤ 10000000) (by
  intro i l hi hll hx
  obtain ⟨d, ed, d1, d2⟩ := Xjs (l.getD i 0 + 32) 64 (by omega) (Or.inr rfl)
  unfold Xe1
  simp only [Int.toNat_natCast]
  rw [Xaj (by omega), Xai (by omega), Xai (by omega), wk (e := l.getD i 0 + 32) (by omega) (by omega), ed, Xad, Xai (by omega), Xai (by omega), wk (e := (i : Int) + 1) (by omega) (by omega)]
  exact ⟨d, rfl, by omega, by omega⟩) (by intro s; unfold Xe1; rw [Xap (by simp)]) o h1 (fun x hx => by have := h2 x hx; omega)
 exact ⟨r, (Xgu er).trans rfl, r1, r2⟩
theorem Xq3 (p : List Int) (B : Int) (hB : 0 ≤ B) (hl : p.length = 16) (hb : inB B p) : ∃ o, Xfe p = some o ∧ o.length = 16 ∧ inB B o := by
 unfold Xfe
 rw [Xai (by omega)]
 obtain ⟨o, e, h1, h2⟩ := Xeu (f := Xc7 p) 16 (fun i s => s.length = 16 ∧ inB B s) (by
  intro i s hi ⟨g1, g2⟩
  have ha := Xqm hb (i := i) (by omega)
  unfold Xc7
  simp only
  rw [Xaj (by omega), Xai (by omega), Xai (by omega), Xai (by omega), Xca (by omega), Xbn (by omega), wk (e := (i : Int) / 4) (by omega) (by omega), wk (e := (i : Int) % 4 * 4) (by omega) (by omega), wk (e := (i : Int) % 4 * 4 + (i : Int) / 4) (by omega) (by omega), Xai (by omega), Xai (by omega), wk (e := (i : Int) + 1) (by omega) (by omega), Int.toNat_natCast]
  exact ⟨_, rfl, by rw [List.length_set]; exact g1, Yns g2 _ ha⟩) (by intro s; unfold Xc7; rw [Xap (by simp)]) (List.replicate (16 : Int).toNat 0) ⟨by simp, Ynr _ hB⟩
 exact ⟨o, (Xgu e).trans rfl, h1, h2⟩
theorem Yta {B a b c d : Int} (h1 : -B ≤ a ∧ a ≤ B) (h2 : -B ≤ b ∧ b ≤ B) (h3 : -B ≤ c ∧ c ≤ B) (h4 : -B ≤ d ∧ d ≤ B) : inB B [a, b, c, d] := fun x hx => by
 simp only [List.mem_cons, List.not_mem_nil, or_false] at hx
 rcases hx with rfl | rfl | rfl | rfl
 ·
  exact h1
 ·
  exact h2
 ·
  exact h3
 ·
  exact h4
theorem Xpx (p : List Int) (B : Int) (hB : 0 ≤ B ∧ B ≤ 1000000000) (hl : p.length = 16) (hb : inB B p) : ∃ o, Xei p = some o ∧ o.length = 16 ∧ inB (4 * B + 2) o := by
 have hm : maxLen = 9223372036854775807 := rfl
 unfold Xei
 obtain ⟨o, e, h1, h2⟩ := Xeu (f := Xcj p) 4 (fun i s => s.length = 4 * i ∧ inB (4 * B + 2) s) (by
  intro i s hi ⟨g1, g2⟩
  have a0 := Xqm hb (i := 4 * i) (by omega)
  have a1 := Xqm hb (i := 4 * i + 1) (by omega)
  have a2 := Xqm hb (i := 4 * i + 2) (by omega)
  have a3 := Xqm hb (i := 4 * i + 3) (by omega)
  obtain ⟨f, ef, f1, f2⟩ := Xjs (p.getD (4 * i + 1) 0) 2 (by omega) (Or.inl rfl)
  obtain ⟨g, eg, g1', g2'⟩ := Xjs (p.getD (4 * i + 3) 0) 2 (by omega) (Or.inl rfl)
  unfold Xcj
  simp only
  rw [Xaj (by omega), wk (e := 4 * (i : Int)) (by omega) (by omega), wk (e := 4 * (i : Int) + 1) (by omega) (by omega), wk (e := 4 * (i : Int) + 2) (by omega) (by omega), wk (e := 4 * (i : Int) + 3) (by omega) (by omega), Xai (by omega), Xai (by omega), Xai (by omega), Xai (by omega), show (4 * (i : Int)).toNat = 4 * i by omega, show (4 * (i : Int) + 1).toNat = 4 * i + 1 by omega, show (4 * (i : Int) + 2).toNat = 4 * i + 2 by omega, show (4 * (i : Int) + 3).toNat = 4 * i + 3 by omega, ef, Xad, eg, Xad]
  generalize p.getD (4 * i) 0 = a at *
  generalize p.getD (4 * i + 1) 0 = b at *
  generalize p.getD (4 * i + 2) 0 = c at *
  generalize p.getD (4 * i + 3) 0 = d at *
  rw [wk (e := (i : Int) + 1) (by omega) (by omega), wk (e := a + c) (by omega) (by omega), wk (e := a - c) (by omega) (by omega), wk (e := b + g) (by omega) (by omega), wk (e := f - d) (by omega) (by omega), wk (e := a + c + (b + g)) (by omega) (by omega), wk (e := a - c + (f - d)) (by omega) (by omega), wk (e := a - c - (f - d)) (by omega) (by omega), wk (e := a + c - (b + g)) (by omega) (by omega), Xai (by simp only [List.length_cons, List.length_nil]; omega)]
  exact ⟨_, rfl, by simp; omega, Xw4 g2 (Yta (by omega) (by omega) (by omega) (by omega))⟩) (by intro s; unfold Xcj; rw [Xap (by simp)]) [] ⟨rfl, Ynq _⟩
 exact ⟨o, (Xgu e).trans rfl, h1, h2⟩
theorem Xpt (p : List Int) (hl : p.length = 16) (hb : inB 10000000 p) : ∃ o, Xfk p = some o ∧ o.length = 16 ∧ inB 10000000 o := by
 unfold Xfk
 obtain ⟨a, ea, a1, a2⟩ := Xpx p 10000000 (by omega) hl hb
 obtain ⟨b, eb, b1, b2⟩ := Xq3 a _ (by omega) a1 a2
 obtain ⟨c, ec, c1, c2⟩ := Xpx b _ (by omega) b1 b2
 obtain ⟨d, ed, d1, d2⟩ := Xq3 c _ (by omega) c1 c2
 rw [Xio p 16 10000000 (by omega) (by omega) (by omega) hb, Xad, Bool.not_true, Xav, ea, Xad, eb, Xad, ec, Xad, ed, Xad]
 obtain ⟨r, er, r1, r2⟩ := Xrk (f := Xfu) 16 (fun x => -160000010 ≤ x ∧ x ≤ 160000010) (fun x => -10000000 ≤ x ∧ x ≤ 10000000) (by
  intro i l hi hll hx
  obtain ⟨d, ed, d1, d2⟩ := Xjs (l.getD i 0 + 32) 64 (by omega) (Or.inr rfl)
  unfold Xfu
  simp only [Int.toNat_natCast]
  rw [Xaj (by omega), Xai (by omega), Xai (by omega), wk (e := l.getD i 0 + 32) (by omega) (by omega), ed, Xad, Xai (by omega), Xai (by omega), wk (e := (i : Int) + 1) (by omega) (by omega)]
  exact ⟨d, rfl, by omega, by omega⟩) (by intro s; unfold Xfu; rw [Xap (by simp)]) d d1 (fun x hx => by have := d2 x hx; omega)
 exact ⟨r, (Xgu er).trans rfl, r1, r2⟩
theorem Xok (l qp p : Int) (hl : -5000 ≤ l ∧ l ≤ 5000) (h0 : 0 ≤ qp ∧ qp ≤ 40) (hp : 0 ≤ p ∧ p ≤ 15) : ∃ o, Xes l qp p = some o ∧ -10000000 ≤ o ∧ o ≤ 10000000 := by
 unfold Xes
 obtain ⟨s, es, q0, q1⟩ := Yek qp p h0 hp
 rw [Xak, Xad, decide_eq_true hl, Bool.not_true, Xav, es, Xad]
 have m1 : l * s ≤ 5000 * s := Int.mul_le_mul_of_nonneg_right hl.2 q0
 have m2 : -5000 * s ≤ l * s := Int.mul_le_mul_of_nonneg_right hl.1 q0
 rw [wk (by omega) (by omega)]
 exact ⟨_, rfl, by omega, by omega⟩
theorem Xoh (l qp : Int) (hl : -5000 ≤ l ∧ l ≤ 5000) (h0 : 0 ≤ qp ∧ qp ≤ 40) : ∃ o, Xer l qp = some o ∧ -5760000 ≤ o ∧ o ≤ 5760000 := by
 unfold Xer
 obtain ⟨s, es, q0, q1⟩ := Yhp qp h0
 rw [Xak, Xad, decide_eq_true hl, Bool.not_true, Xav, es, Xad]
 have m1 : l * s ≤ 5000 * s := Int.mul_le_mul_of_nonneg_right hl.2 (by omega)
 have m2 : -5000 * s ≤ l * s := Int.mul_le_mul_of_nonneg_right hl.1 (by omega)
 rw [wk (by omega) (by omega)]
 exact ⟨_, rfl, by omega, by omega⟩
theorem Yrm {l : List Int} (h : Yp4 l = true) : l.length = 64 ∧ inB 5000 l := by
 obtain ⟨h1, h2⟩ := Yp5 h
 refine ⟨h1, fun x hx => ?_⟩
 have := List.all_eq_true.1 h2 x hx
 unfold Yv0 at this
 rwa [decide_eq_true_eq] at this
theorem Yll {c : Xju} (h : Xix c = true) : 0 ≤ c.Qp ∧ c.Qp ≤ 40 := by
 unfold Xix at h
 rw [Bool.and_eq_true, decide_eq_true_eq] at h
 exact h.1
theorem Xnb (p : List Int) (c : Xju) (hc : Xix c = true) (hp : Yp4 p = true) : ∃ o, Xc5 p c = some (o, true) ∧ o.length = 64 ∧ inB 10000000 o := by
 have hm : maxLen = 9223372036854775807 := rfl
 have hq := Yll hc
 obtain ⟨hl, hb⟩ := Yrm hp
 unfold Xc5
 rw [Xeo, Xad, hc, Xaw, Xio p 64 5000 (by omega) (by omega) (by omega) hb, Xad, Bool.not_true, Xad, Xav]
 cases hE : c.Exact with
 | true =>
  obtain ⟨o, e, h1, h2⟩ := Xe3 8 (Or.inr rfl) p 5000 (by omega) (by omega) hb
  rw [Xaw, e, Xad]
  exact ⟨o, rfl, by omega, Yjt h2 (by omega)⟩
 | false =>
  rw [Xav]
  cases hL : c.Large with
  | true =>
   obtain ⟨w, ew, w1, w2⟩ := Xe3 8 (Or.inr rfl) p 5000 (by omega) (by omega) hb
   obtain ⟨l, el, l1, l2⟩ := Xrk (f := Xbd c) 64 (fun x => -5000 ≤ x ∧ x ≤ 5000) (fun x => -5760000 ≤ x ∧ x ≤ 5760000) (by
    intro i l hi hll hx
    obtain ⟨d, ed, d1, d2⟩ := Xoh (l.getD i 0) c.Qp hx hq
    unfold Xbd
    simp only [Int.toNat_natCast]
    rw [Xaj (by omega), Xai (by omega), Xai (by omega), ed, Xad, Xai (by omega), Xai (by omega), wk (e := (i : Int) + 1) (by omega) (by omega)]
    exact ⟨d, rfl, d1, d2⟩) (by intro s; unfold Xbd; rw [Xap (by simp)]) w (by omega) w2
   obtain ⟨o, e, h1, h2⟩ := Xxg l l1 l2
   rw [Xaw, ew, Xad, el, Xad, e, Xad]
   exact ⟨o, rfl, h1, h2⟩
  | false =>
   obtain ⟨o, eo, o1, o2⟩ := Xeu (f := Xb4 p c) 4 (fun k s => s.length = 64 ∧ inB 10000000 s) (by
    intro k s hk ⟨g1, g2⟩
    have hcut : ((p.drop (16 * k)).take 16).length = 16 := by rw [List.length_take, List.length_drop]; omega
    obtain ⟨a, ea, a1, a2⟩ := Xe3 4 (Or.inl rfl) ((p.drop (16 * k)).take 16) 5000 (by omega) (by omega) (Yos (Yor hb _) _)
    obtain ⟨l, el, l1, l2⟩ := Xrk (f := Xbb c) 16 (fun x => -5000 ≤ x ∧ x ≤ 5000) (fun x => -10000000 ≤ x ∧ x ≤ 10000000) (by
     intro i l hi hll hx
     obtain ⟨d, ed, d1, d2⟩ := Xok (l.getD i 0) c.Qp i hx hq (by omega)
     unfold Xbb
     simp only [Int.toNat_natCast]
     rw [Xaj (by omega), Xai (by omega), Xai (by omega), ed, Xad, Xai (by omega), Xai (by omega), wk (e := (i : Int) + 1) (by omega) (by omega)]
     exact ⟨d, rfl, d1, d2⟩) (by intro s; unfold Xbb; rw [Xap (by simp)]) a (by omega) a2
    obtain ⟨b, eb, b1, b2⟩ := Xpt l l1 l2
    obtain ⟨r, er, r1, r2⟩ := Xeu (f := Xbe ((k : Int), s) b) 16 (fun i s => s.length = 64 ∧ inB 10000000 s) (by
     intro i s hi ⟨g1, g2⟩
     have ha := Xqm b2 (i := i) (by omega)
     unfold Xbe
     simp only
     rw [Xaj (by omega), Xai (by omega), Xai (by omega), Xai (by omega), Xai (by omega), Xai (by omega), Xai (by omega), Xbn (a := (k : Int)) (by omega), Xbn (a := (i : Int)) (by omega), Xca (a := (k : Int)) (by omega), Xca (a := (i : Int)) (by omega), wk (e := (k : Int) / 2) (by omega) (by omega), wk (e := (k : Int) / 2 * 4) (by omega) (by omega), wk (e := (i : Int) / 4) (by omega) (by omega), wk (e := (k : Int) / 2 * 4 + (i : Int) / 4) (by omega) (by omega), wk (e := 8 * ((k : Int) / 2 * 4 + (i : Int) / 4)) (by omega) (by omega), wk (e := (k : Int) % 2 * 4) (by omega) (by omega), wk (e := 8 * ((k : Int) / 2 * 4 + (i : Int) / 4) + (k : Int) % 2 * 4) (by omega) (by omega), wk (e := 8 * ((k : Int) / 2 * 4 + (i : Int) / 4) + (k : Int) % 2 * 4 + (i : Int) % 4) (by omega) (by omega), Xai (by omega), Xai (by omega), wk (e := (i : Int) + 1) (by omega) (by omega), Int.toNat_natCast]
     exact ⟨_, rfl, by rw [List.length_set]; exact g1, Yns g2 _ ha⟩) (by intro s; unfold Xbe; rw [Xap (by simp)]) s ⟨g1, g2⟩
    unfold Xb4
    simp only
    rw [Xaj (by omega), wk (e := 16 * (k : Int)) (by omega) (by omega), wk (e := 16 * (k : Int) + 16) (by omega) (by omega), Xai (by omega), show (16 * (k : Int)).toNat = 16 * k by omega, show (16 * (k : Int) + 16).toNat - 16 * k = 16 by omega, ea, Xad, el, Xad, eb, Xad, er, Xad, wk (e := (k : Int) + 1) (by omega) (by omega)]
    exact ⟨_, rfl, r1, r2⟩) (by intro s; unfold Xb4; rw [Xap (by simp)]) (List.replicate (64 : Int).toNat 0) ⟨by simp, Ynr _ (by omega)⟩
   rw [Xav, Xai (by omega), eo, Xad]
   exact ⟨o, rfl, o1, o2⟩
theorem Xp2 (l : List Int) (h : Xmd l = true) : Xlh l = some true := by
 obtain ⟨h1, h2⟩ := Xqd h
 unfold Xlh
 rw [Xbg (by simp only [bne_eq_false_iff_eq]; omega), Xqs l.length (f := Xgq l) (by
  intro i hi
  have := h2 i (by omega)
  unfold Xgq
  rw [Xaj (by omega), Xai (by omega), Xak, Xad, Int.toNat_natCast, decide_eq_true this, Bool.not_true, Xav, wk (by omega) (by omega)]
  rfl) (by unfold Xgq; rw [Xap (by omega)]), Xad]
theorem Ylp {l : List Int} (h1 : l.length = 64) (h2 : ∀ x ∈ l, 0 ≤ x ∧ x ≤ 255) : Xmd l = true := by
 unfold Xmd
 rw [Bool.and_eq_true, decide_eq_true_eq, List.all_eq_true]
 exact ⟨h1, fun x hx => by unfold Ys2; rw [decide_eq_true_eq]; exact h2 x hx⟩
theorem Xst (g b : List Int) (hg : Xmd g = true) (hl : b.length = 64) (hb : inB 10000000 b) : ∃ o, Xgh g b = some o ∧ Xmd o = true := by
 have hm : maxLen = 9223372036854775807 := rfl
 obtain ⟨g1, g2⟩ := Xqd hg
 unfold Xgh
 rw [Xp2 g hg, Xad, Xaw, Xio b 64 10000000 (by omega) (by omega) (by omega) hb, Xad, Bool.not_true, Xad, Xav]
 obtain ⟨o, e, h1, h2⟩ := Xeu (f := Xeq g b) 64 (fun i s => s.length = i ∧ ∀ x ∈ s, 0 ≤ x ∧ x ≤ 255) (by
  intro i s hi ⟨k1, k2⟩
  have ha := Xqm hb (i := i) (by omega)
  have hd := g2 i hi
  have br := Xl6 (n := g.getD i 0 + b.getD i 0) (a := 0) (b := 255) (by omega)
  unfold Xeq
  simp only [Int.toNat_natCast]
  rw [Xaj (by omega), Xai (by omega), Xai (by omega), wk (e := g.getD i 0 + b.getD i 0) (by omega) (by omega), Xez, Xad, Xai (by simp only [List.length_singleton]; omega), wk (e := (i : Int) + 1) (by omega) (by omega)]
  refine ⟨_, rfl, by simp; omega, fun x hx => ?_⟩
  rcases List.mem_append.1 hx with hx | hx
  ·
   exact k2 x hx
  ·
   rw [List.mem_singleton.1 hx]; exact br) (by intro s; unfold Xeq; rw [Xap (by simp)]) [] ⟨rfl, fun x hx => by simp at hx⟩
 exact ⟨o, (Xgu e).trans rfl, Ylp h1 h2⟩
def Xx7 (e : Xjw) : Prop := (e.Above.length = 0 ∨ e.Above.length = 8) ∧ (e.Left.length = 0 ∨ e.Left.length = 8) ∧ (∀ x ∈ e.Above, 0 ≤ x ∧ x ≤ 255) ∧ (∀ x ∈ e.Left, 0 ≤ x ∧ x ≤ 255) ∧ -1 ≤ e.Corner ∧ e.Corner ≤ 255
theorem Yas {p : Pic} (ok : Xcp p = true) (x y : Int) : Xb3 p x y 8 8 = some (Xky p x y) := by
 obtain ⟨k1, k2, k3⟩ := Xbr ok
 unfold Xb3 Xky
 rw [Xfl, Xad, ok, Xaw, Xak, Xad, Xak, Xad, wk (e := p.Wide - 8) (by omega) (by omega), wk (e := p.High - 8) (by omega) (by omega), Xak, Xad, Xak, Xad]
 simp only [Xdx, Xad]
 congr 1
 rw [Bool.eq_iff_iff]
 simp only [Bool.and_eq_true, decide_eq_true_eq]
 omega
theorem Xlq {p : Pic} (ok : Xcp p = true) {x y : Int} (hx : x.tmod 8 = 0) (hy : y.tmod 8 = 0) (h : Xky p x y = true) : Xit p x y = some true := by
 unfold Xit
 rw [Xai (by omega), hx, Xai (by omega), hy, Yas ok, Xad, h]
 rfl
theorem Yd5 {p : Pic} (ok : Xcp p = true) {x y : Int} (hx : x.tmod 8 = 0) (hy : y.tmod 8 = 0) (h : Xky p x y = true) : ∃ e, Xgg p x y = some (e, true) ∧ Xx7 e := by
 have hm : maxLen = 9223372036854775807 := rfl
 obtain ⟨k1, k2, k3⟩ := Xbr ok
 have h' := h
 unfold Xky at h'
 rw [decide_eq_true_eq] at h'
 unfold Xgg
 rw [Xlq ok hx hy h, Xad, Bool.not_true, Xav]
 obtain ⟨o, e, o1, o2, o3, o4, o5, o6⟩ := Xeu (f := Xdz p x y) 8 (fun i s => (y > 0 → s.1.length = i) ∧ (¬ y > 0 → s.1.length = 0) ∧ (x > 0 → s.2.length = i) ∧ (¬ x > 0 → s.2.length = 0) ∧ (∀ z ∈ s.1, 0 ≤ z ∧ z ≤ 255) ∧ (∀ z ∈ s.2, 0 ≤ z ∧ z ≤ 255)) (by
  intro i s hi ⟨g1, g2, g3, g4, g5, g6⟩
  obtain ⟨a, b⟩ := s
  simp only at g1 g2 g3 g4 g5 g6
  have d1 := Xos p (x + i) (y - 1)
  have d2 := Xos p (x - 1) (y + i)
  have st1 : ∃ a', (sel (decide (y > 0)) (bnd (Xe0 p (Xaa .i64 (x + (i : Int))) (Xaa .i64 (y - 1))) fun q16 => req ((a.length + ([q16]).length) * 8 ≤ 140737488355328 ∧ a.length + ([q16]).length ≤ maxLen) <| some (a ++ ([q16]))) (some a)) = some a' ∧ (y > 0 → a'.length = i + 1) ∧ (¬ y > 0 → a'.length = 0) ∧ (∀ z ∈ a', 0 ≤ z ∧ z ≤ 255) := by
   by_cases c : y > 0
   ·
    rw [Xaj c, wk (e := x + (i : Int)) (by omega) (by omega), wk (e := y - 1) (by omega) (by omega), Xji ok, Xad, Xai (by simp only [List.length_singleton]; have := g1 c; omega)]
    refine ⟨_, rfl, fun _ => by simp; exact g1 c, fun hn => absurd c hn, fun z hz => ?_⟩
    rcases List.mem_append.1 hz with hz | hz
    ·
     exact g5 z hz
    ·
     rw [List.mem_singleton.1 hz]; exact d1
   ·
    rw [Xap c]
    exact ⟨_, rfl, fun hn => absurd hn c, fun _ => g2 c, g5⟩
  obtain ⟨a', ea, a1, a2, a3⟩ := st1
  have st2 : ∃ b', (sel (decide (x > 0)) (bnd (Xe0 p (Xaa .i64 (x - 1)) (Xaa .i64 (y + (i : Int)))) fun q17 => req ((b.length + ([q17]).length) * 8 ≤ 140737488355328 ∧ b.length + ([q17]).length ≤ maxLen) <| some (a', (b ++ ([q17])))) (some (a', b))) = some (a', b') ∧ (x > 0 → b'.length = i + 1) ∧ (¬ x > 0 → b'.length = 0) ∧ (∀ z ∈ b', 0 ≤ z ∧ z ≤ 255) := by
   by_cases c : x > 0
   ·
    rw [Xaj c, wk (e := y + (i : Int)) (by omega) (by omega), wk (e := x - 1) (by omega) (by omega), Xji ok, Xad, Xai (by simp only [List.length_singleton]; have := g3 c; omega)]
    refine ⟨_, rfl, fun _ => by simp; exact g3 c, fun hn => absurd c hn, fun z hz => ?_⟩
    rcases List.mem_append.1 hz with hz | hz
    ·
     exact g6 z hz
    ·
     rw [List.mem_singleton.1 hz]; exact d2
   ·
    rw [Xap c]
    exact ⟨_, rfl, fun hn => absurd hn c, fun _ => g4 c, g6⟩
  obtain ⟨b', eb, b1, b2, b3⟩ := st2
  unfold Xdz
  simp only
  rw [Xaj (by omega), ea, Xad, eb, Xad, wk (e := (i : Int) + 1) (by omega) (by omega)]
  exact ⟨(a', b'), rfl, a1, a2, b1, b2, a3, b3⟩) (by intro s; unfold Xdz; rw [Xap (by simp)]) ([], []) ⟨fun _ => rfl, fun _ => rfl, fun _ => rfl, fun _ => rfl, fun z hz => by simp at hz, fun z hz => by simp at hz⟩
 rw [e, Xad, Xdx, Xad]
 have d3 := Xos p (x - 1) (y - 1)
 have ha : o.1.length = 0 ∨ o.1.length = 8 := by
  by_cases c : y > 0
  ·
   exact Or.inr (o1 c)
  ·
   exact Or.inl (o2 c)
 have hb : o.2.length = 0 ∨ o.2.length = 8 := by
  by_cases c : x > 0
  ·
   exact Or.inr (o3 c)
  ·
   exact Or.inl (o4 c)
 cases hc : (decide (x > 0) && decide (y > 0)) with
 | true =>
  rw [Xaw, wk (e := x - 1) (by omega) (by omega), wk (e := y - 1) (by omega) (by omega), Xji ok, Xad, Xad]
  exact ⟨_, rfl, ha, hb, o5, o6, by simp only; omega, by simp only; omega⟩
 | false =>
  rw [Xav, Xad]
  exact ⟨_, rfl, ha, hb, o5, o6, by simp only; omega, by simp only; omega⟩
theorem Xp5 (l : List Int) (hl : l.length = 0 ∨ l.length = 8) (h : ∀ x ∈ l, 0 ≤ x ∧ x ≤ 255) : Xiu l = some true := by
 unfold Xiu
 have hc : (sel ((l.length : Int) != 0) (some ((l.length : Int) != 8)) (some false)) = some false := by
  rcases hl with e | e
  ·
   rw [e]; rfl
  ·
   rw [e]; rfl
 rw [hc, Xad, Xav, Xqs l.length (f := Xgr l) (by
  intro i hi
  have := h (l.getD i 0) (by rw [Xcb l i hi]; exact List.getElem_mem _)
  unfold Xgr
  rw [Xaj (by omega), Xai (by omega), Xak, Xad, Int.toNat_natCast, decide_eq_true this, Bool.not_true, Xav, wk (by omega) (by omega)]
  rfl) (by unfold Xgr; rw [Xap (by omega)]), Xad]
theorem Xps {e : Xjw} (h : Xx7 e) : Xle e = some true := by
 obtain ⟨h1, h2, h3, h4, h5, h6⟩ := h
 unfold Xle
 rw [Xp5 _ h1 h3, Xad, Xaw, Xp5 _ h2 h4, Xad, Xaw, Xak, Xad, decide_eq_true ⟨h5, h6⟩, Xad]
theorem Xon (l : List Int) (k : Nat) (hk : k < 8) (hl : l.length = 0 ∨ l.length = 8) (h : ∀ x ∈ l, 0 ≤ x ∧ x ≤ 255) : ∃ x, Xcy l k = some x ∧ 0 ≤ x ∧ x ≤ 255 := by
 unfold Xcy
 rcases hl with e | e
 ·
  rw [Xb1 (by rw [e]; rfl)]; exact ⟨_, rfl, by omega, by omega⟩
 ·
  rw [Xbg (by rw [e]; rfl), Xai (by omega), Int.toNat_natCast]
  exact ⟨_, rfl, h _ (by rw [Xcb l k (by omega)]; exact List.getElem_mem _)⟩
theorem Xs0 {e : Xjw} (h : Xx7 e) : ∃ x, Xif e = some x ∧ 0 ≤ x ∧ x ≤ 255 := by
 obtain ⟨h1, h2, h3, h4, _, _⟩ := h
 unfold Xif
 rw [wk (e := (e.Above.length : Int) + (e.Left.length : Int)) (by omega) (by omega)]
 by_cases hz : (e.Above.length : Int) + (e.Left.length : Int) = 0
 ·
  rw [Xb1 (by simpa using hz)]; exact ⟨_, rfl, by omega, by omega⟩
 ·
  rw [Xbg (by simpa using hz), Xai (by omega), Xbn (by omega), wk (e := ((e.Above.length : Int) + (e.Left.length : Int)) / 2) (by omega) (by omega)]
  obtain ⟨a, ea, a1, a2⟩ := Xm3 (f := Xf2 e) e.Above.length (fun i s => 0 ≤ s ∧ s ≤ ((e.Above.length : Int) + (e.Left.length : Int)) / 2 + 255 * i) (by
   intro i s hi ⟨g1, g2⟩
   have := h3 (e.Above.getD i 0) (by rw [Xcb _ i hi]; exact List.getElem_mem _)
   unfold Xf2
   simp only [Int.toNat_natCast]
   rw [Xaj (by omega), Xai (by omega), wk (e := s + e.Above.getD i 0) (by omega) (by omega), wk (e := (i : Int) + 1) (by omega) (by omega)]
   exact ⟨_, rfl, by omega, by omega⟩) (by intro s; unfold Xf2; rw [Xap (by simp)]) (((e.Above.length : Int) + (e.Left.length : Int)) / 2) ⟨by omega, by omega⟩
  obtain ⟨b, eb, b1, b2⟩ := Xm3 (f := Xf3 e) e.Left.length (fun i s => 0 ≤ s ∧ s ≤ ((e.Above.length : Int) + (e.Left.length : Int)) / 2 + 255 * e.Above.length + 255 * i) (by
   intro i s hi ⟨g1, g2⟩
   have := h4 (e.Left.getD i 0) (by rw [Xcb _ i hi]; exact List.getElem_mem _)
   unfold Xf3
   simp only [Int.toNat_natCast]
   rw [Xaj (by omega), Xai (by omega), wk (e := s + e.Left.getD i 0) (by omega) (by omega), wk (e := (i : Int) + 1) (by omega) (by omega)]
   exact ⟨_, rfl, by omega, by omega⟩) (by intro s; unfold Xf3; rw [Xap (by simp)]) a ⟨by omega, by omega⟩
  rw [ea, Xad, eb, Xad, Xai hz, Xbn b1]
  have hn : (e.Above.length : Int) + (e.Left.length : Int) = 8 ∨ (e.Above.length : Int) + (e.Left.length : Int) = 16 := by omega
  have hr : 0 ≤ b / ((e.Above.length : Int) + (e.Left.length : Int)) ∧ b / ((e.Above.length : Int) + (e.Left.length : Int)) ≤ 255 := by
   rcases hn with hn | hn <;> rw [hn] <;> omega
  rw [wk (by omega) (by omega)]
  exact ⟨_, rfl, hr⟩
theorem Yd8 (m : Int) (hm0 : 0 ≤ m ∧ m ≤ 3) {e : Xjw} (h : Xx7 e) : ∃ g, Xfc m e = some g ∧ Xmd g = true := by
 have hm : maxLen = 9223372036854775807 := rfl
 have h' := h
 obtain ⟨h1, h2, h3, h4, h5, h6⟩ := h'
 obtain ⟨mid, em, m1, m2⟩ := Xs0 h
 unfold Xfc
 rw [Xps h, Xad, Xaw, Xak, Xad, decide_eq_true hm0, Bool.not_true, Xad, Xav]
 have hc : ∃ v, sel (decide (e.Corner < 0)) (some (128 : Int)) (some e.Corner) = some v ∧ 0 ≤ v ∧ v ≤ 255 := by
  by_cases c : e.Corner < 0
  ·
   rw [Xaj c]; exact ⟨_, rfl, by omega, by omega⟩
  ·
   rw [Xap c]; exact ⟨_, rfl, by omega, by omega⟩
 obtain ⟨v, ev, v1, v2⟩ := hc
 rw [ev, Xad]
 obtain ⟨o, eo, o1, o2⟩ := Xeu (f := Xc4 m e v) 64 (fun i s => s.length = i ∧ ∀ x ∈ s, 0 ≤ x ∧ x ≤ 255) (by
  intro i s hi ⟨g1, g2⟩
  obtain ⟨a, ea, a1, a2⟩ := Xon e.Above (i % 8) (by omega) h1 h3
  obtain ⟨b, eb, b1, b2⟩ := Xon e.Left (i / 8) (by omega) h2 h4
  have br := Xl6 (n := b + a - v) (a := 0) (b := 255) (by omega)
  have put : ∀ z : Int, 0 ≤ z ∧ z ≤ 255 → (s ++ [z]).length = i + 1 ∧ ∀ x ∈ s ++ [z], 0 ≤ x ∧ x ≤ 255 := by
   intro z hz
   refine ⟨by simp; omega, fun x hx => ?_⟩
   rcases List.mem_append.1 hx with hx | hx
   ·
    exact g2 x hx
   ·
    rw [List.mem_singleton.1 hx]; exact hz
  unfold Xc4
  simp only
  rw [Xaj (by omega), Xai (by omega), Xca (by omega), show (i : Int) % 8 = ((i % 8 : Nat) : Int) by omega, ea, Xad, Xai (by omega), Xbn (by omega), wk (e := (i : Int) / 8) (by omega) (by omega), show (i : Int) / 8 = ((i / 8 : Nat) : Int) by omega, eb, Xad, wk (e := (i : Int) + 1) (by omega) (by omega), em]
  cases (m == 0) with
  | true =>
   rw [Xaw, Xad, Xai (by simp only [List.length_singleton]; omega), Xad]
   exact ⟨_, rfl, put _ ⟨m1, m2⟩⟩
  | false =>
   rw [Xav]
   cases (m == 1) with
   | true =>
    rw [Xaw, Xai (by simp only [List.length_singleton]; omega), Xad]
    exact ⟨_, rfl, put _ ⟨a1, a2⟩⟩
   | false =>
    rw [Xav]
    cases (m == 2) with
    | true =>
     rw [Xaw, Xai (by simp only [List.length_singleton]; omega), Xad]
     exact ⟨_, rfl, put _ ⟨b1, b2⟩⟩
    | false =>
     rw [Xav, wk (e := b + a) (by omega) (by omega), wk (e := b + a - v) (by omega) (by omega), Xez, Xad, Xai (by simp only [List.length_singleton]; omega), Xad]
     exact ⟨_, rfl, put _ br⟩) (by intro s; unfold Xc4; rw [Xap (by simp)]) [] ⟨rfl, fun x hx => by simp at hx⟩
 exact ⟨o, (Xgu eo).trans rfl, Ylp o1 o2⟩
theorem Yh3 {p : Pic} {x y : Int} {d : List Int} (ok : Xcp p = true) (h0 : Xky p x y = true) (hd : Xmd d = true) : ∃ p', Xgs p x y d = some p' ∧ Xcp p' = true ∧ p'.Wide = p.Wide ∧ p'.High = p.High := by
 have hm : maxLen = 9223372036854775807 := rfl
 obtain ⟨k1, k2, k3⟩ := Xbr ok
 have ar := Xdq k1 k2
 unfold Xky at h0
 rw [decide_eq_true_eq] at h0
 have hdl := (Xqd hd).1
 have hn := Xbi p.Dots
 unfold Xgs
 rw [Xai (by omega)]
 obtain ⟨o, e, o1⟩ := Xeu (f := Xet p x y d) 64 (fun _ s => s.length = p.Dots.size) (by
  intro i s hi g1
  have b1 : 0 ≤ (y + (i : Int) / 8) * p.Wide := Int.mul_nonneg (by omega) (by omega)
  have b2 : (y + (i : Int) / 8) * p.Wide ≤ (p.High - 1) * p.Wide := Int.mul_le_mul_of_nonneg_right (by omega) (by omega)
  have b3 : (p.High - 1) * p.Wide = p.Wide * p.High - p.Wide := by rw [Int.sub_mul, Int.one_mul, Int.mul_comm]
  unfold Xet
  simp only
  rw [Xaj (by omega), Xai (by omega), Xai (by omega), Xai (by omega), Xbn (by omega), Xca (by omega), wk (e := (i : Int) / 8) (by omega) (by omega), wk (e := y + (i : Int) / 8) (by omega) (by omega), wk (e := (y + (i : Int) / 8) * p.Wide) (by omega) (by omega), wk (e := (y + (i : Int) / 8) * p.Wide + x) (by omega) (by omega), wk (e := (y + (i : Int) / 8) * p.Wide + x + (i : Int) % 8) (by omega) (by omega), Xai (by omega), Xai (by omega), wk (e := (i : Int) + 1) (by omega) (by omega)]
  exact ⟨_, rfl, by rw [List.length_set]; exact g1⟩) (by intro s; unfold Xet; rw [Xap (by simp)]) (Xbo p.Dots) hn
 refine ⟨_, (Xgu e).trans rfl, Xvg k1 k2 ?_, rfl, rfl⟩
 simp only
 rw [strOfNums_size]; omega
def Xpd (n : Int) : Bool := decide (n.tmod 8 = 0) && decide (8 ≤ n ∧ n ≤ 64)
theorem Xq8 (n : Int) : Xiw n = some (Xpd n) := by
 unfold Xiw Xpd
 rw [Xai (by omega), Xak, Xad, Xdx, Xad, Yi5]
theorem Yju {V O : Type} {f g : V → Option (Lp V O)} (I : V → Prop) (h : ∀ v, I v → f v = g v) (hI : ∀ v v', I v → g v = some (.go v') → I v') : ∀ (k : Nat) (v : V), I v → it f k v = it g k v
 | 0, _, _ => rfl
 | k + 1, v, hv => by
  rw [it, it, h v hv]
  cases e : g v with
  | none => rfl
  | some s =>
   cases s with
   | go y => exact Yju I h hI k y (hI v y hv e)
   | done o => rfl
theorem Xxa {V O : Type} {f g : V → Option (Lp V O)} (I : V → Prop) (h : ∀ v, I v → f v = g v) (hI : ∀ v v', I v → g v = some (.go v') → I v') {v : V} (hv : I v) : loop f v = loop g v := by
 apply Option.ext
 intro o
 rw [Xhn, Xhn]
 exact ⟨fun ⟨k, hk⟩ => ⟨k, by rw [← Yju I h hI k v hv]; exact hk⟩, fun ⟨k, hk⟩ => ⟨k, by rw [Yju I h hI k v hv]; exact hk⟩⟩
theorem Ynw {V O : Type} {f : V → Option (Lp V O)} {v : V} {o : O} (k : Nat) (h : it f k v = some o) : loop f v = some o := Xhn.2 ⟨k, h⟩
theorem Ydi {a b : List Int} {n : Nat} (ha : a.length = n) (hb : b.length = n) (h : ∀ i : Nat, i < n → a.getD i 0 = b.getD i 0) : a = b := by
 apply List.ext_getElem (by omega)
 intro i h1 h2
 have := h i (by omega)
 rwa [Xcb a i h1, Xcb b i h2] at this
theorem Xiy {n : Nat} (g : Nat → Int) {i : Nat} (h : i < n) : ((List.range n).map g).getD i 0 = g i := by
 rw [Xcb _ i (by simpa using h)]; simp
theorem Ysx {α : Type} {f : Int × List α → Option (Lp (Int × List α) (List α))} (n : Nat) (g : Nat → α) (a : List α) (hs : ∀ i : Nat, i < n → f ((i : Int), a ++ (List.range i).map g) = some (.go (((i + 1 : Nat) : Int), a ++ (List.range i).map g ++ [g i]))) (he : f ((n : Int), a ++ (List.range n).map g) = some (.done (a ++ (List.range n).map g))) : loop f (0, a) = some (a ++ (List.range n).map g) := by
 have key : ∀ i : Nat, i ≤ n → loop f ((i : Int), a ++ (List.range i).map g) = some (a ++ (List.range n).map g) := by
  refine Xf5 _ (Xda he) ?_
  intro i hi ih
  refine lgo (hs i hi) ?_
  rw [List.append_assoc, show (List.range i).map g ++ [g i] = (List.range (i + 1)).map g by simp [List.range_succ]]
  exact ih
 have := key 0 (by omega)
 simpa using this
theorem Xhk {S : Type} {f : Int × S → Option (Lp (Int × S) S)} (n : Nat) (I : Nat → S → Prop) (hs : ∀ (i : Nat) (l : S), i < n → I i l → ∃ l', f ((i : Int), l) = some (.go (((i + 1 : Nat) : Int), l')) ∧ I (i + 1) l') (he : ∀ l, I n l → f ((n : Int), l) = some (.done l)) (l0 : S) (h0 : I 0 l0) : ∃ o, loop f (0, l0) = some o ∧ I n o := by
 have key : ∀ i : Nat, i ≤ n → ∀ l, I i l → ∃ o, loop f ((i : Int), l) = some o ∧ I n o := by
  refine Xf5 _ ?_ ?_
  ·
   intro l h; exact ⟨l, Xda (he l h), h⟩
  ·
   intro i hi ih l h
   obtain ⟨l', e, h'⟩ := hs i l hi h
   obtain ⟨o, e2, h2⟩ := ih l' h'
   exact ⟨o, lgo e e2, h2⟩
 exact key 0 (by omega) l0 h0
theorem Yp9 {f : Int × List Int → Option (Lp (Int × List Int) (List Int))} (n : Nat) (g : Nat → Int) (l : List Int) (hl : l.length = n) (hs : ∀ (i : Nat) (s : List Int), i < n → s.length = n → s.getD i 0 = l.getD i 0 → f ((i : Int), s) = some (.go (((i + 1 : Nat) : Int), s.set i (g i)))) (he : ∀ s : List Int, s.length = n → f ((n : Int), s) = some (.done s)) : loop f (0, l) = some ((List.range n).map g) := by
 obtain ⟨o, e, h1, h2, _⟩ := Xhk (f := f) n (fun i s => s.length = n ∧ (∀ j, j < i → s.getD j 0 = g j) ∧ ∀ j, i ≤ j → s.getD j 0 = l.getD j 0) (by
  intro i s hi ⟨g1, g2, g3⟩
  refine ⟨_, hs i s hi g1 (g3 i (Nat.le_refl _)), by rw [List.length_set]; exact g1, fun j hj => ?_, fun j hj => ?_⟩
  ·
   rw [Xfg s i j _ (by omega)]
   by_cases h : i = j
   ·
    rw [if_pos h, h]
   ·
    rw [if_neg h]; exact g2 j (by omega)
  ·
   rw [Xfg s i j _ (by omega), if_neg (by omega)]; exact g3 j (by omega)) (fun s hs => he s hs.1) l ⟨hl, fun j hj => by omega, fun _ _ => rfl⟩
 rw [e]
 congr 1
 exact Ydi h1 (by simp) fun i hi => by rw [h2 i hi, Xiy g hi]
theorem Yno : Xl9 = Xck := rfl
theorem Yho (qp : Int) (h0 : 0 ≤ qp ∧ qp ≤ 40) : Xgk qp = some (Xm2 qp) := by
 have h := Ysb ⟨qp.toNat, by omega⟩
 simp only at h
 rw [show ((qp.toNat : Nat) : Int) = qp by omega] at h
 unfold Xgk
 rw [Xak, Xad, decide_eq_true (by omega), Bool.not_true, Xav, Xai (by omega)]
 have hb : (sel ((qp.tmod 6) == 0) (some (10 : Int)) (sel ((qp.tmod 6) == 1) (some 11) (sel ((qp.tmod 6) == 2) (some 13) (sel ((qp.tmod 6) == 3) (some 14) (sel ((qp.tmod 6) == 4) (some 16) (some 18)))))) = some (Xpf qp) := by
  unfold Xpf
  simp only [Ykk, beq_iff_eq]
  repeat' split
  all_goals rfl
 rw [hb, Xad]
 unfold Xm2 at h ⊢
 cases e : it (Xh3 qp) 10 (Xpf qp, 0) with
 | none => rw [e] at h; simp only at h; omega
 | some q => rw [Xhn.2 ⟨10, e⟩, Xad]
theorem Yjq : ∀ q : Fin 41, Xj1 (q.val : Int) = some (Xm2 (q.val : Int)) := by decide +kernel
theorem Yf7 (qp : Int) (h0 : 0 ≤ qp ∧ qp ≤ 40) : Xj1 qp = some (Xm2 qp) := by
 have := Yjq ⟨qp.toNat, by omega⟩
 simp only at this
 rwa [show ((qp.toNat : Nat) : Int) = qp by omega] at this
theorem Ylb (qp : Int) (h0 : 0 ≤ qp ∧ qp ≤ 40) : Xj1 qp = Xgk qp := by rw [Yf7 qp h0, Yho qp h0]
theorem Xsw (u v : Nat) (hu : u < 8) (hv : v < 8) : Xgj u v = some (Xh0 u v) := by
 have h := Yr7 ⟨u, hu⟩ ⟨v, hv⟩
 simp only at h
 unfold Xgj
 rw [Xak, Xad, decide_eq_true (by omega), Xaw, Xak, Xad, decide_eq_true (by omega), Bool.not_true, Xad, Xav]
 unfold Xh0 at h ⊢
 cases e : it Xh1 10 (1, (IntKind.wrap .i64 (BitVec.ofInt (IntKind.bits .i64) (u : Int) &&& BitVec.ofInt (IntKind.bits .i64) (v : Int)).toNat)) with
 | none => rw [e] at h; simp only at h; omega
 | some q => rw [Xhn.2 ⟨10, e⟩, Xad]
theorem Yjp : ∀ u v : Fin 8, Xj0 (u.val : Int) (v.val : Int) = some (Xh0 (u.val : Int) (v.val : Int)) := by decide +kernel
theorem Xx4 (u v : Nat) (hu : u < 8) (hv : v < 8) : Xj0 u v = some (Xh0 u v) := Yjp ⟨u, hu⟩ ⟨v, hv⟩
def Ykj (qp p : Int) : Option Int :=
 bnd (Xkh p) fun q1 => bnd (Xbp q1 10 16 13) fun a1 => bnd (Xbp q1 11 18 14) fun a2 => bnd (Xbp q1 13 20 16) fun a3 => bnd (Xbp q1 14 23 18) fun a4 => bnd (Xbp q1 16 25 20) fun a5 => bnd (Xbp q1 18 29 23) fun a6 =>
 it (Xd0 qp) 10 ((sel (qp.tmod 6 == 0) a1 (sel (qp.tmod 6 == 1) a2 (sel (qp.tmod 6 == 2) a3 (sel (qp.tmod 6 == 3) a4 (sel (qp.tmod 6 == 4) a5 (sel (qp.tmod 6 == 5) a6 0)))))), 0)
theorem Yr3 : ∀ q : Fin 41, ∀ p : Fin 16, (Ykj (q.val : Int) (p.val : Int)).isSome = true ∧ Xk3 (q.val : Int) (p.val : Int) = Ykj (q.val : Int) (p.val : Int) := by decide +kernel
theorem Yiw (qp p : Int) (h0 : 0 ≤ qp ∧ qp ≤ 40) (hp : 0 ≤ p ∧ p ≤ 15) : Xk3 qp p = Xgi qp p := by
 have := Yr3 ⟨qp.toNat, by omega⟩ ⟨p.toNat, by omega⟩
 simp only at this
 rw [show ((qp.toNat : Nat) : Int) = qp by omega, show ((p.toNat : Nat) : Int) = p by omega] at this
 obtain ⟨h1, h2⟩ := this
 rw [h2]
 cases e : Ykj qp p with
 | none => rw [e] at h1; cases h1
 | some o =>
  unfold Ykj at e
  unfold Xgi
  obtain ⟨k, ek, k0, k1⟩ := Xsu p hp
  rw [ek, Xad] at e ⊢
  rw [Xak, Xad, decide_eq_true h0, Xaw, decide_eq_false (by omega), Xad, Xav, Xai (by omega)]
  obtain ⟨a1, e1, b1⟩ := Xbm k 10 16 13
  obtain ⟨a2, e2, b2⟩ := Xbm k 11 18 14
  obtain ⟨a3, e3, b3⟩ := Xbm k 13 20 16
  obtain ⟨a4, e4, b4⟩ := Xbm k 14 23 18
  obtain ⟨a5, e5, b5⟩ := Xbm k 16 25 20
  obtain ⟨a6, e6, b6⟩ := Xbm k 18 29 23
  rw [e1, e2, e3, e4, e5, e6] at e ⊢
  simp only [Xad, Yr6] at e ⊢
  rw [Ynw 10 e, Xad]
def Xof (n : Int) (v16 : Int × List Int) : Option (Lp (Int × List Int) (List Int)) :=
 sel (decide (v16.1 ≤ (Xaa .i64 ((Xaa .i64 (2 * n)) - 2)))) (
 bnd (it (Xjb n v16) 20 (0, v16.2)) fun v42 =>
 some (.go (Xaa .i64 (v16.1 + 1), v42))) (
 some (.done v16.2))
theorem Ym0 {n : Int} {v : Int × List Int} {x : Lp (Int × List Int) (List Int)} (h : Xof n v = some x) : Xf4 n v = some x := by
 unfold Xof at h
 unfold Xf4
 rcases Xpc h with ⟨hb, h⟩ | ⟨hb, h⟩
 ·
  rw [hb, Xaw]
  obtain ⟨a, h1, h2⟩ := Xa7 h
  rw [Xhn.2 ⟨20, h1⟩, Xad]
  exact h2
 ·
  rw [hb, Xav]; exact h
def Ygz (n : Int) : List Int := (it (Xof n) 20 (0, [])).getD []
theorem Yvj : (it (Xof 4) 20 (0, [])).isSome = true ∧ (Ygz 4).length = 16 := by decide +kernel
theorem Yvk : (it (Xof 8) 20 (0, [])).isSome = true ∧ (Ygz 8).length = 64 := by decide +kernel
theorem Yr4 : ∀ i : Fin 16, (Ygz 4).getD i.val 0 = Xgc 4 (i.val : Int) := by decide +kernel
theorem Yr5 : ∀ i : Fin 64, (Ygz 8).getD i.val 0 = Xgc 8 (i.val : Int) := by decide +kernel
theorem Xw1 (n : Int) (hn : n = 4 ∨ n = 8) : Xhv n = some (Ygz n) ∧ ((Ygz n).length : Int) = n * n ∧ ∀ i : Nat, (i : Int) < n * n → (Ygz n).getD i 0 = Xgc n i := by
 have h : (it (Xof n) 20 (0, [])).isSome = true ∧ ((Ygz n).length : Int) = n * n := by
  rcases hn with rfl | rfl
  ·
   have := Yvj; exact ⟨this.1, by omega⟩
  ·
   have := Yvk; exact ⟨this.1, by omega⟩
 refine ⟨?_, h.2, fun i hi => ?_⟩
 ·
  obtain ⟨o, ho⟩ := Option.isSome_iff_exists.1 h.1
  have hl := Ynw 20 (Ytb (fun v y => Ym0 (n := n)) 20 _ ho)
  unfold Xhv
  rw [hl, Xad]
  unfold Ygz; rw [ho]; rfl
 ·
  rcases hn with rfl | rfl
  ·
   exact Yr4 ⟨i, by omega⟩
  ·
   exact Yr5 ⟨i, by omega⟩
theorem Xqa (n : Int) (hn : n = 4 ∨ n = 8) (l : List Int) (hl : (l.length : Int) = n * n) : Xek n l = Xcw n l := by
 obtain ⟨e, h1, h2⟩ := Xw1 n hn
 have hw : Xaa .i64 (n * n) = n * n := by rcases hn with rfl | rfl <;> exact wk (by omega) (by omega)
 have hn2 : n * n ≤ 64 := by rcases hn with rfl | rfl <;> omega
 unfold Xek Xcw
 rw [e]
 have : loop (Xg1 l (Ygz n)) (0, List.replicate (l.length : Int).toNat 0) = loop (Xb6 n l) (0, List.replicate (l.length : Int).toNat 0) := by
  refine Xxa (fun v => (∃ i : Nat, v.1 = (i : Int) ∧ i ≤ l.length) ∧ v.2.length = l.length) ?_ ?_ ⟨⟨0, rfl, by omega⟩, by simp⟩
  ·
   intro ⟨i, s⟩ ⟨⟨k, ek, hk⟩, hs⟩
   simp only at hs ek
   subst ek
   unfold Xg1 Xb6
   simp only [Int.toNat_natCast]
   rw [hw]
   by_cases hi : (k : Int) < n * n
   ·
    have hp := Xm9 n hn k hi
    have h3 := h2 k hi
    simp only [h3]
    rw [Xaj (by omega), Xaj hi, Xno n hn k hi, Xad, Xai (by omega), Xai (by omega)]
   ·
    rw [Xap (by omega), Xap hi]
  ·
   intro ⟨i, s⟩ v' ⟨⟨k, ek, hk⟩, hs⟩ he
   simp only at hs ek
   subst ek
   unfold Xb6 at he
   simp only [Int.toNat_natCast] at he
   rw [hw] at he
   by_cases hi : (k : Int) < n * n
   ·
    have hp := Xm9 n hn k hi
    rw [Xaj hi, Xno n hn k hi, Xad, Xai (by omega), Xai (by omega), Xai (by omega), wk (by omega) (by omega)] at he
    cases he
    exact ⟨⟨k + 1, rfl, by omega⟩, by rw [List.length_set]; exact hs⟩
   ·
    rw [Xap hi] at he; cases he
 simp only [Xad, this]
def Yk4 (t : Nat → Int) : Nat → Int
 | 0 => 0
 | k + 1 => Xaa .i64 (Yk4 t k + t k)
def Yvf (p : List Int) (i v k : Nat) : Int := Xaa .i64 (Xh0 v k * p.getD (8 * i + k) 0)
def Yuz (p : List Int) (u v k : Nat) : Int := Xaa .i64 (Xh0 u k * p.getD (8 * k + v) 0)
def Xqe (p : List Int) : List Int := (List.range 64).map fun j => Yk4 (Yvf p (j / 8) (j % 8)) 8
def Yqk (p : List Int) : List Int := (List.range 64).map fun j => Yk4 (Yuz (Xqe p) (j / 8) (j % 8)) 8
theorem Ylx (p : List Int) : (Xqe p).length = 64 := by simp [Xqe]
theorem Ysd (p : List Int) : (Yqk p).length = 64 := by simp [Yqk]
theorem Ym7 {f1 : Int × List Int → Option (Lp (Int × List Int) (List Int))} {f2 : Int × List Int → Int × List Int → Option (Lp (Int × List Int) (List Int))} {f3 : Int × List Int → Int × List Int → Int × List Int → Option (Lp (Int × List Int) (List Int))} (t : Nat → Nat → Nat → Int)
  (h1 : ∀ v, f1 v = sel (decide (v.1 < 8)) (bnd (loop (f2 v) (0, v.2)) fun w => some (.go (Xaa .i64 (v.1 + 1), w))) (some (.done v.2)))
  (h2 : ∀ v w, f2 v w = sel (decide (w.1 < 8)) (bnd (loop (f3 v w) (0, w.2)) fun x => some (.go (Xaa .i64 (w.1 + 1), x))) (some (.done w.2)))
  (h3 : ∀ (i v k : Nat) (a b s : List Int), i < 8 → v < 8 → k < 8 → s.length = 64 → f3 ((i : Int), a) ((v : Int), b) ((k : Int), s) = some (.go (((k + 1 : Nat) : Int), s.set (8 * i + v) (Xaa .i64 (s.getD (8 * i + v) 0 + t i v k)))))
  (h4 : ∀ (i v : Nat) (a b s : List Int), f3 ((i : Int), a) ((v : Int), b) (8, s) = some (.done s)) : loop f1 (0, List.replicate 64 0) = some ((List.range 64).map fun j => Yk4 (t (j / 8) (j % 8)) 8) := by
 obtain ⟨o, e, o1, o2, _⟩ := Xhk (f := f1) 8 (fun i s => s.length = 64 ∧ (∀ j, j < 8 * i → s.getD j 0 = Yk4 (t (j / 8) (j % 8)) 8) ∧ ∀ j, 8 * i ≤ j → s.getD j 0 = 0) (by
  intro i s hi ⟨g1, g2, g3⟩
  obtain ⟨r, er, r1, r2, r3⟩ := Xhk (f := f2 ((i : Int), s)) 8 (fun v s => s.length = 64 ∧ (∀ j, j < 8 * i + v → s.getD j 0 = Yk4 (t (j / 8) (j % 8)) 8) ∧ ∀ j, 8 * i + v ≤ j → s.getD j 0 = 0) (by
   intro v s' hv ⟨k1, k2, k3⟩
   obtain ⟨q, eq, q1, q2, q3⟩ := Xhk (f := f3 ((i : Int), s) ((v : Int), s')) 8 (fun k s => s.length = 64 ∧ (∀ j, j ≠ 8 * i + v → s.getD j 0 = s'.getD j 0) ∧ s.getD (8 * i + v) 0 = Yk4 (t i v) k) (by
    intro k s'' hk ⟨m1, m2, m3⟩
    refine ⟨_, h3 i v k s s' s'' hi hv hk m1, by rw [List.length_set]; exact m1, fun j hj => ?_, ?_⟩
    ·
     rw [Xfg _ _ _ _ (by omega), if_neg (fun h => hj h.symm)]; exact m2 j hj
    ·
     rw [Xfg _ _ _ _ (by omega), if_pos rfl, m3]; rfl) (fun z _ => h4 i v s s' z) s' ⟨k1, fun _ _ => rfl, by rw [k3 _ (Nat.le_refl _)]; rfl⟩
   refine ⟨q, by rw [h2, Xaj (by simp only; omega), eq, Xad, wk (by simp only; omega) (by simp only; omega)]; rfl, q1, fun j hj => ?_, fun j hj => ?_⟩
   ·
    by_cases h : j = 8 * i + v
    ·
     rw [h, q3, show (8 * i + v) / 8 = i by omega, show (8 * i + v) % 8 = v by omega]
    ·
     rw [q2 j h]; exact k2 j (by omega)
   ·
    rw [q2 j (by omega)]; exact k3 j (by omega)) (fun z _ => by rw [h2, Xap (by simp)]) s ⟨g1, g2, g3⟩
  refine ⟨r, by rw [h1, Xaj (by simp only; omega), er, Xad, wk (by simp only; omega) (by simp only; omega)]; rfl, r1, fun j hj => r2 j (by omega), fun j hj => r3 j (by omega)⟩) (fun z _ => by rw [h1, Xap (by simp)]) (List.replicate 64 0) ⟨by simp, fun j hj => by omega, fun j _ => by
   by_cases h : j < 64
   ·
    rw [Xcb _ _ (by rw [List.length_replicate]; exact h)]; exact List.getElem_replicate ..
   ·
    rw [List.getD_eq_getElem?_getD, List.getElem?_eq_none (by rw [List.length_replicate]; omega)]; rfl⟩
 rw [e]
 congr 1
 exact Ydi o1 (by simp) fun j hj => by rw [o2 j (by omega), Xiy (fun j => Yk4 (t (j / 8) (j % 8)) 8) hj]
theorem Yl5 (p : List Int) (hp : p.length = 64) : Xql p = some (Yqk p) := by
 unfold Xql
 rw [Xai (by omega)]
 have e1 : loop (Xo2 p) (0, List.replicate (64 : Int).toNat 0) = some (Xqe p) :=
  Ym7 (f2 := Xo3 p) (f3 := Xjd p) (fun i v k => Yvf p i v k) (fun _ => rfl) (fun _ _ => rfl) (fun i v k a b s hi hv hk hs => by
   unfold Xjd
   simp only
   rw [Xaj (by omega), wk (e := 8 * (i : Int)) (by omega) (by omega), wk (e := 8 * (i : Int) + (v : Int)) (by omega) (by omega), wk (e := 8 * (i : Int) + (k : Int)) (by omega) (by omega), Xai (by omega), Xai (by omega), Xx4 v k hv hk, Xad, Xai (by omega), Xai (by omega), Xai (by omega), wk (e := (k : Int) + 1) (by omega) (by omega), show (8 * (i : Int) + (v : Int)).toNat = 8 * i + v by omega, show (8 * (i : Int) + (k : Int)).toNat = 8 * i + k by omega]
   rfl) (fun i v a b s => by unfold Xjd; rw [Xap (by simp)])
 have e2 : loop (Xni (Xqe p)) (0, List.replicate (64 : Int).toNat 0) = some (Yqk p) :=
  Ym7 (f2 := Xnj (Xqe p)) (f3 := Xhw (Xqe p)) (fun i v k => Yuz (Xqe p) i v k) (fun _ => rfl) (fun _ _ => rfl) (fun i v k a b s hi hv hk hs => by
   have hl := Ylx p
   unfold Xhw
   simp only
   rw [Xaj (by omega), wk (e := 8 * (i : Int)) (by omega) (by omega), wk (e := 8 * (i : Int) + (v : Int)) (by omega) (by omega), wk (e := 8 * (k : Int)) (by omega) (by omega), wk (e := 8 * (k : Int) + (v : Int)) (by omega) (by omega), Xai (by omega), Xai (by omega), Xx4 i k hi hk, Xad, Xai (by omega), Xai (by omega), Xai (by omega), Xai (by omega), wk (e := (k : Int) + 1) (by omega) (by omega), show (8 * (i : Int) + (v : Int)).toNat = 8 * i + v by omega, show (8 * (k : Int) + (v : Int)).toNat = 8 * k + v by omega]
   rfl) (fun i v a b s => by unfold Xhw; rw [Xap (by simp)])
 rw [e1, Xad, Xai (by omega), e2, Xad]
theorem Yhz (p : List Int) (hp : p.length = 64) (i v : Nat) (hi : i < 8) (hv : v < 8) : Xie p i v = some (Yk4 (Yvf p i v) 8) := by
 obtain ⟨o, e, h⟩ := Xm3 (f := Xdp p i v) 8 (fun k s => s = Yk4 (Yvf p i v) k) (by
  intro k s hk g
  subst g
  unfold Xdp
  simp only
  rw [Xaj (by omega), wk (e := 8 * (i : Int)) (by omega) (by omega), wk (e := 8 * (i : Int) + (k : Int)) (by omega) (by omega), Xai (by omega), Xsw v k hv hk, Xad, wk (e := (k : Int) + 1) (by omega) (by omega), show (8 * (i : Int) + (k : Int)).toNat = 8 * i + k by omega, Int.mul_comm (p.getD _ _)]
  exact ⟨_, rfl, rfl⟩) (by intro s; unfold Xdp; rw [Xap (by simp)]) 0 rfl
 unfold Xie
 rw [e, Xad, h]
theorem Ye3 (p : List Int) (hp : p.length = 64) : Xgo p = some (Yqk p) := by
 have hm : maxLen = 9223372036854775807 := rfl
 unfold Xgo
 obtain ⟨o, e, ho⟩ := Xeu (f := Xcl p) 8 (fun i s => s = (List.range (8 * i)).map fun j => Yk4 (Yvf p (j / 8) (j % 8)) 8) (by
  intro i s hi g
  subst g
  obtain ⟨r, er, hr⟩ := Xeu (f := Xcm p ((i : Int), (List.range (8 * i)).map fun j => Yk4 (Yvf p (j / 8) (j % 8)) 8)) 8 (fun v s => s = (List.range (8 * i + v)).map fun j => Yk4 (Yvf p (j / 8) (j % 8)) 8) (by
   intro v s hv g
   subst g
   unfold Xcm
   simp only
   rw [Xaj (by omega), Yhz p hp i v hi hv, Xad, Xai (by simp only [List.length_singleton, List.length_map, List.length_range]; omega), wk (e := (v : Int) + 1) (by omega) (by omega)]
   refine ⟨_, rfl, ?_⟩
   rw [show 8 * i + (v + 1) = (8 * i + v) + 1 by omega, List.range_succ, List.map_append, List.map_singleton, show (8 * i + v) / 8 = i by omega, show (8 * i + v) % 8 = v by omega]) (by intro s; unfold Xcm; rw [Xap (by simp)]) _ rfl
  rw [Nat.add_zero] at er
  unfold Xcl
  simp only
  rw [Xaj (by omega), er, Xad, wk (e := (i : Int) + 1) (by omega) (by omega)]
  exact ⟨_, rfl, by rw [hr, show 8 * (i + 1) = 8 * i + 8 by omega]⟩) (by intro s; unfold Xcl; rw [Xap (by simp)]) [] rfl
 have ho' : o = Xqe p := by rw [ho]; rfl
 rw [e, Xad, ho']
 obtain ⟨o2, e2, ho2⟩ := Xeu (f := Xb7 (Xqe p)) 8 (fun i s => s = (List.range (8 * i)).map fun j => Yk4 (Yuz (Xqe p) (j / 8) (j % 8)) 8) (by
  intro i s hi g
  subst g
  obtain ⟨r, er, hr⟩ := Xeu (f := Xb8 (Xqe p) ((i : Int), (List.range (8 * i)).map fun j => Yk4 (Yuz (Xqe p) (j / 8) (j % 8)) 8)) 8 (fun v s => s = (List.range (8 * i + v)).map fun j => Yk4 (Yuz (Xqe p) (j / 8) (j % 8)) 8) (by
   intro v s hv g
   obtain ⟨c, ec, hc⟩ := Xm3 (f := Xb9 (Xqe p) ((i : Int), (List.range (8 * i)).map fun j => Yk4 (Yuz (Xqe p) (j / 8) (j % 8)) 8) ((v : Int), s)) 8 (fun k x => x = Yk4 (Yuz (Xqe p) i v) k) (by
    intro k x hk g
    subst g
    have hl := Ylx p
    unfold Xb9
    simp only
    rw [Xaj (by omega), Xsw i k hi hk, Xad, wk (e := 8 * (k : Int)) (by omega) (by omega), wk (e := 8 * (k : Int) + (v : Int)) (by omega) (by omega), Xai (by omega), Xai (by omega), wk (e := (k : Int) + 1) (by omega) (by omega), show (8 * (k : Int) + (v : Int)).toNat = 8 * k + v by omega]
    exact ⟨_, rfl, rfl⟩) (by intro s; unfold Xb9; rw [Xap (by simp)]) 0 rfl
   subst g
   unfold Xb8
   simp only
   rw [Xaj (by omega), ec, Xad, Xai (by simp only [List.length_singleton, List.length_map, List.length_range]; omega), wk (e := (v : Int) + 1) (by omega) (by omega)]
   refine ⟨_, rfl, ?_⟩
   rw [hc, show 8 * i + (v + 1) = (8 * i + v) + 1 by omega, List.range_succ, List.map_append, List.map_singleton, show (8 * i + v) / 8 = i by omega, show (8 * i + v) % 8 = v by omega]) (by intro s; unfold Xb8; rw [Xap (by simp)]) _ rfl
  rw [Nat.add_zero] at er
  unfold Xb7
  simp only
  rw [Xaj (by omega), er, Xad, wk (e := (i : Int) + 1) (by omega) (by omega)]
  exact ⟨_, rfl, by rw [hr, show 8 * (i + 1) = 8 * i + 8 by omega]⟩) (by intro s; unfold Xb7; rw [Xap (by simp)]) [] rfl
 rw [e2, Xad, ho2]
 rfl
theorem Ybj (l : List Int) (n B : Int) (hn : (l.length : Int) = n) (hn2 : n ≤ 1000000) (h : inB B l) : Xds l n (-B) B = some true := by
 rw [Xlz l n (-B) B (by omega), hn, beq_self_eq_true, Bool.and_true]
 congr 1
 rw [List.all_eq_true]
 intro x hx
 rw [decide_eq_true_eq]; exact h x hx
theorem Xvm (o : List Int) {f : Int × List Int → Option (Lp (Int × List Int) (List Int))} (n : Nat) (hn : n ≤ 64) (hl : o.length = n) (hf : ∀ v : Int × List Int, f v = sel (decide (v.1 < (n : Int))) (req (0 ≤ v.1 ∧ v.1 < v.2.length) <| req (v.1.toNat < v.2.length) <| bnd (Xck (Xaa .i64 ((v.2.getD v.1.toNat 0) + 32)) 64) fun q => req (0 ≤ v.1 ∧ v.1 < v.2.length) <| req (v.1.toNat < v.2.length) <| some (.go (Xaa .i64 (v.1 + 1), (v.2.set v.1.toNat q)))) (some (.done v.2))) : bnd (Xin o) (fun q => some q.2) = bnd (loop f (0, o)) fun q => some q := by
 unfold Xin
 have : Xmk o = f := by
  funext v
  rw [hf, ← hl]; rfl
 rw [this]
 cases loop f (0, o) <;> rfl
theorem Ybc (p : List Int) (hl : p.length = 64) (hb : inB 10000000 p) : Xhr p = Xep p := by
 unfold Xhr Xep
 rw [Ybj p 64 10000000 (by omega) (by omega) hb, Xio p 64 10000000 (by omega) (by omega) (by omega) hb, Xad, Xad, Bool.not_true, Xav, Xav, Yl5 p hl, Ye3 p hl, Xad, Xad]
 exact Xvm (Yqk p) 64 (by omega) (Ysd p) (fun _ => rfl)
def tgA (q : Int → Int → Int → Int → Option (Int × Int × Int × Int)) (v4 : (Int × (List Int))) : Option (Lp (Int × (List Int)) (List Int)) :=
 sel (decide (v4.1 < 16)) (
 req (0 ≤ v4.1 ∧ v4.1 < v4.2.length) <|
 req (v4.1.toNat < v4.2.length) <|
 req (0 ≤ (Xaa .i64 (v4.1 + 1)) ∧ (Xaa .i64 (v4.1 + 1)) < v4.2.length) <|
 req ((Xaa .i64 (v4.1 + 1)).toNat < v4.2.length) <|
 req (0 ≤ (Xaa .i64 (v4.1 + 2)) ∧ (Xaa .i64 (v4.1 + 2)) < v4.2.length) <|
 req ((Xaa .i64 (v4.1 + 2)).toNat < v4.2.length) <|
 req (0 ≤ (Xaa .i64 (v4.1 + 3)) ∧ (Xaa .i64 (v4.1 + 3)) < v4.2.length) <|
 req ((Xaa .i64 (v4.1 + 3)).toNat < v4.2.length) <|
 bnd (q (v4.2.getD v4.1.toNat 0) (v4.2.getD ((Xaa .i64 (v4.1 + 1)).toNat) 0) (v4.2.getD ((Xaa .i64 (v4.1 + 2)).toNat) 0) (v4.2.getD ((Xaa .i64 (v4.1 + 3)).toNat) 0)) fun q8 =>
 req (0 ≤ v4.1 ∧ v4.1 ≤ (Xaa .i64 (v4.1 + 4)) ∧ (Xaa .i64 (v4.1 + 4)) ≤ (v4.2.length : Int)) <|
 req ((v4.1.toNat + ((Xaa .i64 (v4.1 + 4)).toNat - v4.1.toNat) ≤ v4.2.length ∧ ([q8.1, q8.2.1, q8.2.2.1, q8.2.2.2]).length ≤ ((Xaa .i64 (v4.1 + 4)).toNat - v4.1.toNat))) <|
 some (.go (Xaa .i64 (v4.1 + 4), (over v4.2 v4.1.toNat ([q8.1, q8.2.1, q8.2.2.1, q8.2.2.2]))))) (
 some (.done v4.2))
def tgB (v17 : (Int × (List Int))) (q26 : (Int × Int × Int × Int)) (v28 : (Int × (List Int))) : Option (Lp (Int × (List Int)) (List Int)) :=
 sel (decide (v28.1 < 4)) (
 req (0 ≤ v28.1 ∧ v28.1 < ([q26.1, q26.2.1, q26.2.2.1, q26.2.2.2] : List Int).length) <|
 req (0 ≤ (Xaa .i64 (v17.1 + (Xaa .i64 (4 * v28.1)))) ∧ (Xaa .i64 (v17.1 + (Xaa .i64 (4 * v28.1)))) < v28.2.length) <|
 req ((Xaa .i64 (v17.1 + (Xaa .i64 (4 * v28.1)))).toNat < v28.2.length) <|
 some (.go (Xaa .i64 (v28.1 + 1), (v28.2.set ((Xaa .i64 (v17.1 + (Xaa .i64 (4 * v28.1)))).toNat) (([q26.1, q26.2.1, q26.2.2.1, q26.2.2.2] : List Int).getD v28.1.toNat 0))))) (
 some (.done v28.2))
noncomputable def tgC (q : Int → Int → Int → Int → Option (Int × Int × Int × Int)) (v17 : (Int × (List Int))) : Option (Lp (Int × (List Int)) (List Int)) :=
 sel (decide (v17.1 < 4)) (
 req (0 ≤ v17.1 ∧ v17.1 < v17.2.length) <|
 req (v17.1.toNat < v17.2.length) <|
 req (0 ≤ (Xaa .i64 (v17.1 + 4)) ∧ (Xaa .i64 (v17.1 + 4)) < v17.2.length) <|
 req ((Xaa .i64 (v17.1 + 4)).toNat < v17.2.length) <|
 req (0 ≤ (Xaa .i64 (v17.1 + 8)) ∧ (Xaa .i64 (v17.1 + 8)) < v17.2.length) <|
 req ((Xaa .i64 (v17.1 + 8)).toNat < v17.2.length) <|
 req (0 ≤ (Xaa .i64 (v17.1 + 12)) ∧ (Xaa .i64 (v17.1 + 12)) < v17.2.length) <|
 req ((Xaa .i64 (v17.1 + 12)).toNat < v17.2.length) <|
 bnd (q (v17.2.getD v17.1.toNat 0) (v17.2.getD ((Xaa .i64 (v17.1 + 4)).toNat) 0) (v17.2.getD ((Xaa .i64 (v17.1 + 8)).toNat) 0) (v17.2.getD ((Xaa .i64 (v17.1 + 12)).toNat) 0)) fun q26 =>
 bnd (loop (tgB v17 q26) (0, v17.2)) fun v30 =>
 some (.go (Xaa .i64 (v17.1 + 1), v30))) (
 some (.done v17.2))
noncomputable def Yvw (q : Int → Int → Int → Int → Option (Int × Int × Int × Int)) (p0 : (List Int)) : Option (List Int) :=
 bnd (Xee p0) fun q1 =>
 bnd (loop (tgA q) (0, q1)) fun v7 =>
 bnd (loop (tgC q) (0, v7)) fun v25 =>
 some v25
theorem Ysg : Xce = Yvw Xdu := rfl
abbrev Q4 := Int × Int × Int × Int
def Ymp (q : Q4) (i : Nat) : Int := [q.1, q.2.1, q.2.2.1, q.2.2.2].getD i 0
def Xtq (t : Int → Int → Int → Int → Q4) (p : List Int) : List Int := (List.range 16).map fun j => Ymp (t (p.getD (4 * (j / 4)) 0) (p.getD (4 * (j / 4) + 1) 0) (p.getD (4 * (j / 4) + 2) 0) (p.getD (4 * (j / 4) + 3) 0)) (j % 4)
def Xub (p : List Int) : List Int := (List.range 16).map fun j => p.getD (j % 4 * 4 + j / 4) 0
theorem Xvj (t : Int → Int → Int → Int → Q4) (p : List Int) : (Xtq t p).length = 16 := by simp [Xtq]
theorem Xuc (p : List Int) : (Xub p).length = 16 := by simp [Xub]
theorem Ymn {l m : List Int} {i : Nat} (h : i + m.length ≤ l.length) (j : Nat) : (over l i m).getD j 0 = if i ≤ j ∧ j < i + m.length then m.getD (j - i) 0 else l.getD j 0 := by
 rw [List.getD_eq_getElem?_getD, Ya8 h]
 split <;> rw [List.getD_eq_getElem?_getD]
theorem Yub {q : Int → Int → Int → Int → Option Q4} {t : Int → Int → Int → Int → Q4} (hq : ∀ a b c d, q a b c d = some (t a b c d)) (p : List Int) (hp : p.length = 16) : Yvw q p = some (Xub (Xtq t (Xub (Xtq t p)))) := by
 have hm : maxLen = 9223372036854775807 := rfl
 unfold Yvw Xee
 rw [Xai (by simp only [List.length_nil]; omega), Xad, List.nil_append]
 have hA : loop (tgA q) (0, p) = some (Xtq t p) := by
  have key : ∀ r : Nat, r ≤ 4 → ∀ s : List Int, s.length = 16 → (∀ j, j < 4 * r → s.getD j 0 = (Xtq t p).getD j 0) → (∀ j, 4 * r ≤ j → s.getD j 0 = p.getD j 0) → loop (tgA q) (((4 * r : Nat) : Int), s) = some (Xtq t p) := by
   refine Xf5 _ ?_ ?_
   ·
    intro s h1 h2 _
    refine Xda ?_
    unfold tgA
    rw [Xap (by simp), Ydi h1 (Xvj t p) h2]
   ·
    intro r hr ih s h1 h2 h3
    refine lgo (y := (((4 * (r + 1) : Nat) : Int), over s (4 * r) [Ymp (t (p.getD (4 * r) 0) (p.getD (4 * r + 1) 0) (p.getD (4 * r + 2) 0) (p.getD (4 * r + 3) 0)) 0, Ymp (t (p.getD (4 * r) 0) (p.getD (4 * r + 1) 0) (p.getD (4 * r + 2) 0) (p.getD (4 * r + 3) 0)) 1, Ymp (t (p.getD (4 * r) 0) (p.getD (4 * r + 1) 0) (p.getD (4 * r + 2) 0) (p.getD (4 * r + 3) 0)) 2, Ymp (t (p.getD (4 * r) 0) (p.getD (4 * r + 1) 0) (p.getD (4 * r + 2) 0) (p.getD (4 * r + 3) 0)) 3])) ?_ (ih _ ?_ ?_ ?_)
    ·
     unfold tgA
     simp only
     rw [Xaj (by omega), wk (e := ((4 * r : Nat) : Int) + 1) (by omega) (by omega), wk (e := ((4 * r : Nat) : Int) + 2) (by omega) (by omega), wk (e := ((4 * r : Nat) : Int) + 3) (by omega) (by omega), wk (e := ((4 * r : Nat) : Int) + 4) (by omega) (by omega)]
     rw [Xai (by omega), Xai (by omega), Xai (by omega), Xai (by omega), Xai (by omega), Xai (by omega), Xai (by omega), Xai (by omega), hq, Xad, Xai (by omega), Xai (by simp only [List.length_cons, List.length_nil]; omega)]
     rw [show (((4 * r : Nat) : Int) + 1).toNat = 4 * r + 1 by omega, show (((4 * r : Nat) : Int) + 2).toNat = 4 * r + 2 by omega, show (((4 * r : Nat) : Int) + 3).toNat = 4 * r + 3 by omega, Int.toNat_natCast, h3 _ (by omega), h3 _ (by omega), h3 _ (by omega), h3 _ (by omega)]
     rfl
    ·
     rw [Xpa (by simp only [List.length_cons, List.length_nil]; omega)]; exact h1
    ·
     intro j hj
     rw [Ymn (by simp only [List.length_cons, List.length_nil]; omega)]
     simp only [List.length_cons, List.length_nil]
     by_cases h : 4 * r ≤ j
     ·
      rw [if_pos (by omega)]
      unfold Xtq
      rw [Xiy _ (by omega), show 4 * (j / 4) = 4 * r by omega]
      obtain h | h | h | h : j = 4 * r ∨ j = 4 * r + 1 ∨ j = 4 * r + 2 ∨ j = 4 * r + 3 := by omega
      ·
       rw [h, show 4 * r - 4 * r = 0 by omega, show (4 * r) % 4 = 0 by omega]; rfl
      ·
       rw [h, show 4 * r + 1 - 4 * r = 1 by omega, show (4 * r + 1) % 4 = 1 by omega]; rfl
      ·
       rw [h, show 4 * r + 2 - 4 * r = 2 by omega, show (4 * r + 2) % 4 = 2 by omega]; rfl
      ·
       rw [h, show 4 * r + 3 - 4 * r = 3 by omega, show (4 * r + 3) % 4 = 3 by omega]; rfl
     ·
      rw [if_neg (by omega)]; exact h2 j (by omega)
    ·
     intro j hj
     rw [Ymn (by simp only [List.length_cons, List.length_nil]; omega), if_neg (by simp only [List.length_cons, List.length_nil]; omega)]
     exact h3 j (by omega)
  exact key 0 (by omega) p hp (fun j hj => by omega) fun _ _ => rfl
 rw [hA, Xad]
 generalize hR : Xtq t p = R
 have hl : R.length = 16 := by rw [← hR]; exact Xvj t p
 have hC : loop (tgC q) (0, R) = some (Xub (Xtq t (Xub R))) := by
  have at4 : ∀ j : Nat, j < 16 → (Xub (Xtq t (Xub R))).getD j 0 = Ymp (t (R.getD (j % 4) 0) (R.getD (j % 4 + 4) 0) (R.getD (j % 4 + 8) 0) (R.getD (j % 4 + 12) 0)) (j / 4) := by
   intro j hj
   rw [Xub, Xiy _ hj, Xtq, Xiy _ (by omega), Xub, Xiy _ (by omega), Xiy _ (by omega), Xiy _ (by omega), Xiy _ (by omega)]
   rw [show (j % 4 * 4 + j / 4) / 4 = j % 4 by omega, show (j % 4 * 4 + j / 4) % 4 = j / 4 by omega, show 4 * (j % 4) % 4 * 4 + 4 * (j % 4) / 4 = j % 4 by omega, show (4 * (j % 4) + 1) % 4 * 4 + (4 * (j % 4) + 1) / 4 = j % 4 + 4 by omega, show (4 * (j % 4) + 2) % 4 * 4 + (4 * (j % 4) + 2) / 4 = j % 4 + 8 by omega, show (4 * (j % 4) + 3) % 4 * 4 + (4 * (j % 4) + 3) / 4 = j % 4 + 12 by omega]
  obtain ⟨o, e, o1, o2, _⟩ := Xhk (f := tgC q) 4 (fun c s => s.length = 16 ∧ (∀ j, j < 16 → j % 4 < c → s.getD j 0 = (Xub (Xtq t (Xub R))).getD j 0) ∧ ∀ j, j < 16 → c ≤ j % 4 → s.getD j 0 = R.getD j 0) (by
   intro c s hc ⟨g1, g2, g3⟩
   obtain ⟨r, er, r1, r2, r3⟩ := Xhk (f := tgB ((c : Int), s) (t (R.getD c 0) (R.getD (c + 4) 0) (R.getD (c + 8) 0) (R.getD (c + 12) 0))) 4 (fun i s' => s'.length = 16 ∧ (∀ j, j < 16 → j % 4 ≠ c → s'.getD j 0 = s.getD j 0) ∧ ∀ j, j < 16 → j % 4 = c → j / 4 < i → s'.getD j 0 = Ymp (t (R.getD c 0) (R.getD (c + 4) 0) (R.getD (c + 8) 0) (R.getD (c + 12) 0)) (j / 4)) (by
    intro i s' hi ⟨k1, k2, k3⟩
    unfold tgB
    simp only
    rw [Xaj (by omega), Xai (by simp only [List.length_cons, List.length_nil]; omega), wk (e := 4 * (i : Int)) (by omega) (by omega), wk (e := (c : Int) + 4 * (i : Int)) (by omega) (by omega), Xai (by omega), Xai (by omega), wk (e := (i : Int) + 1) (by omega) (by omega), show ((c : Int) + 4 * (i : Int)).toNat = c + 4 * i by omega, Int.toNat_natCast]
    refine ⟨_, rfl, by rw [List.length_set]; exact k1, fun j hj hjc => ?_, fun j hj hjc hji => ?_⟩
    ·
     rw [Xfg _ _ _ _ (by omega), if_neg (by omega)]; exact k2 j hj hjc
    ·
     rw [Xfg _ _ _ _ (by omega)]
     by_cases h : c + 4 * i = j
     ·
      rw [if_pos h, show j / 4 = i by omega]; rfl
     ·
      rw [if_neg h]; exact k3 j hj hjc (by omega)) (fun z _ => by unfold tgB; rw [Xap (by simp)]) s ⟨g1, fun _ _ _ => rfl, fun j hj hjc hji => by omega⟩
   unfold tgC
   simp only
   rw [Xaj (by omega), wk (e := (c : Int) + 4) (by omega) (by omega), wk (e := (c : Int) + 8) (by omega) (by omega), wk (e := (c : Int) + 12) (by omega) (by omega), Xai (by omega), Xai (by omega), Xai (by omega), Xai (by omega), Xai (by omega), Xai (by omega), Xai (by omega), Xai (by omega), hq, Xad, show ((c : Int) + 4).toNat = c + 4 by omega, show ((c : Int) + 8).toNat = c + 8 by omega, show ((c : Int) + 12).toNat = c + 12 by omega, Int.toNat_natCast, g3 c (by omega) (by omega), g3 (c + 4) (by omega) (by omega), g3 (c + 8) (by omega) (by omega), g3 (c + 12) (by omega) (by omega), er, Xad, wk (e := (c : Int) + 1) (by omega) (by omega)]
   refine ⟨r, rfl, r1, fun j hj hjc => ?_, fun j hj hjc => ?_⟩
   ·
    by_cases h : j % 4 = c
    ·
     rw [r3 j hj h (by omega), at4 j hj, h]
    ·
     rw [r2 j hj h]; exact g2 j hj (by omega)
   ·
    rw [r2 j hj (by omega)]; exact g3 j hj (by omega)) (fun z _ => by unfold tgC; rw [Xap (by simp)]) R ⟨hl, fun j hj hjc => by omega, fun _ _ _ => rfl⟩
  rw [e]
  congr 1
  exact Ydi o1 (Xuc _) fun j hj => o2 j hj (by omega)
 rw [hC, Xad]
theorem Xq2 (p : List Int) (hl : p.length = 16) : Xfe p = some (Xub p) := by
 unfold Xfe
 rw [Xai (by omega)]
 obtain ⟨o, e, o1, o2⟩ := Xhk (f := Xc7 p) 16 (fun i s => s.length = 16 ∧ ∀ j, j < 16 → j % 4 * 4 + j / 4 < i → s.getD j 0 = p.getD (j % 4 * 4 + j / 4) 0) (by
  intro i s hi ⟨g1, g2⟩
  unfold Xc7
  simp only
  rw [Xaj (by omega), Xai (by omega), Xai (by omega), Xai (by omega), Xca (by omega), Xbn (by omega), wk (e := (i : Int) / 4) (by omega) (by omega), wk (e := (i : Int) % 4 * 4) (by omega) (by omega), wk (e := (i : Int) % 4 * 4 + (i : Int) / 4) (by omega) (by omega), Xai (by omega), Xai (by omega), wk (e := (i : Int) + 1) (by omega) (by omega), Int.toNat_natCast, show ((i : Int) % 4 * 4 + (i : Int) / 4).toNat = i % 4 * 4 + i / 4 by omega]
  refine ⟨_, rfl, by rw [List.length_set]; exact g1, fun j hj hji => ?_⟩
  rw [Xfg _ _ _ _ (by omega)]
  by_cases h : i % 4 * 4 + i / 4 = j
  ·
   rw [if_pos h, show j % 4 * 4 + j / 4 = i by omega]
  ·
   rw [if_neg h]; exact g2 j hj (by omega)) (fun z _ => by unfold Xc7; rw [Xap (by simp)]) (List.replicate (16 : Int).toNat 0) ⟨by simp, fun j hj h => by omega⟩
 rw [e, Xad]
 congr 1
 exact Ydi o1 (Xuc p) fun j hj => by rw [o2 j hj (by omega), Xub, Xiy _ hj]
theorem Yr0 {f : Int × List Int → Option (Lp (Int × List Int) (List Int))} {t : Int → Int → Int → Int → Q4} (p : List Int) (h : ∀ (i : Nat) (s : List Int), i < 4 → s.length = 4 * i → f ((i : Int), s) = some (.go (((i + 1 : Nat) : Int), s ++ [(t (p.getD (4 * i) 0) (p.getD (4 * i + 1) 0) (p.getD (4 * i + 2) 0) (p.getD (4 * i + 3) 0)).1, (t (p.getD (4 * i) 0) (p.getD (4 * i + 1) 0) (p.getD (4 * i + 2) 0) (p.getD (4 * i + 3) 0)).2.1, (t (p.getD (4 * i) 0) (p.getD (4 * i + 1) 0) (p.getD (4 * i + 2) 0) (p.getD (4 * i + 3) 0)).2.2.1, (t (p.getD (4 * i) 0) (p.getD (4 * i + 1) 0) (p.getD (4 * i + 2) 0) (p.getD (4 * i + 3) 0)).2.2.2]))) (he : ∀ s, f (4, s) = some (.done s)) : loop f (0, []) = some (Xtq t p) := by
 obtain ⟨o, e, ho⟩ := Xhk (f := f) 4 (fun i s => s = (List.range (4 * i)).map fun j => Ymp (t (p.getD (4 * (j / 4)) 0) (p.getD (4 * (j / 4) + 1) 0) (p.getD (4 * (j / 4) + 2) 0) (p.getD (4 * (j / 4) + 3) 0)) (j % 4)) (by
  intro i s hi g
  refine ⟨_, h i s hi (by rw [g]; simp), ?_⟩
  rw [g, show 4 * (i + 1) = 4 * i + 1 + 1 + 1 + 1 by omega]
  simp only [List.range_succ, List.map_append, List.map_singleton, List.append_assoc]
  rw [show (4 * i + 1 + 1 + 1) / 4 = i by omega, show (4 * i + 1 + 1) / 4 = i by omega, show (4 * i + 1) / 4 = i by omega, show 4 * i / 4 = i by omega, show (4 * i + 1 + 1 + 1) % 4 = 3 by omega, show (4 * i + 1 + 1) % 4 = 2 by omega, show (4 * i + 1) % 4 = 1 by omega, show 4 * i % 4 = 0 by omega]
  rfl) (fun z _ => he z) [] rfl
 rw [e, ho]; rfl
def Yia (a b : Int) : Int := Xaa .i64 (if a.tmod b < 0 then Xaa .i64 (a.tdiv b) - 1 else a.tdiv b)
theorem Xri (a b : Int) (hb : b ≠ 0) : Xck a b = some (Yia a b) := by
 unfold Xck Yia
 rw [Xai hb, Xai hb, Yg0]
 split <;> rfl
def t4B (a b c d : Int) : Q4 := (Xaa .i64 ((Xaa .i64 (a + c)) + (Xaa .i64 (b + Yia d 2))), Xaa .i64 ((Xaa .i64 (a - c)) + (Xaa .i64 (Yia b 2 - d))), Xaa .i64 ((Xaa .i64 (a - c)) - (Xaa .i64 (Yia b 2 - d))), Xaa .i64 ((Xaa .i64 (a + c)) - (Xaa .i64 (b + Yia d 2))))
theorem Xug (a b c d : Int) : Xdu a b c d = some (t4B a b c d) := by
 unfold Xdu
 rw [Yno, Xri b 2 (by omega), Xri d 2 (by omega), Xad, Xad]; rfl
theorem Xpw (p : List Int) (hl : p.length = 16) : Xei p = some (Xtq t4B p) := by
 have hm : maxLen = 9223372036854775807 := rfl
 unfold Xei
 rw [Yr0 (f := Xcj p) (t := t4B) p (by
  intro i s hi hs
  unfold Xcj
  simp only
  rw [Xaj (by omega), wk (e := 4 * (i : Int)) (by omega) (by omega), wk (e := 4 * (i : Int) + 1) (by omega) (by omega), wk (e := 4 * (i : Int) + 2) (by omega) (by omega), wk (e := 4 * (i : Int) + 3) (by omega) (by omega), Xai (by omega), Xai (by omega), Xai (by omega), Xai (by omega), show (4 * (i : Int)).toNat = 4 * i by omega, show (4 * (i : Int) + 1).toNat = 4 * i + 1 by omega, show (4 * (i : Int) + 2).toNat = 4 * i + 2 by omega, show (4 * (i : Int) + 3).toNat = 4 * i + 3 by omega, Xri _ 2 (by omega), Xad, Xri _ 2 (by omega), Xad, wk (e := (i : Int) + 1) (by omega) (by omega), Xai (by simp only [List.length_cons, List.length_nil]; omega)]
  rfl) (by intro s; unfold Xcj; rw [Xap (by simp)]), Xad]
theorem Yfl (p : List Int) (hl : p.length = 16) (hb : inB 10000000 p) : Xi2 p = Xfk p := by
 unfold Xi2 Xfk
 rw [Ybj p 16 10000000 (by omega) (by omega) hb, Xio p 16 10000000 (by omega) (by omega) (by omega) hb, Xad, Xad, Bool.not_true, Xav, Xav, Ysg, Yub Xug p hl, Xpw p hl, Xad, Xad, Xq2 _ (Xvj _ _), Xad, Xpw _ (Xuc _), Xad, Xq2 _ (Xvj _ _), Xad]
 exact Xvm _ 16 (by omega) (Xuc _) (fun _ => rfl)
theorem Ykd {β : Type} {c : Prop} [Decidable c] {k k' : Option β} (h : c → k = k') : req c k = req c k' := by
 by_cases hc : c
 ·
  rw [Xai hc, Xai hc, h hc]
 ·
  unfold req; rw [if_neg hc, if_neg hc]
theorem Xsq {β : Type} {c : Prop} [Decidable c] {k k' : Option β} (h0 : c) (h : k = k') : req c k = k' := by rw [Xai h0, h]
theorem Yn4 {β : Type} {b : Bool} {x x' y y' : β} (h : b = true → x = x') (h2 : b = false → y = y') : sel b x y = sel b x' y' := by
 cases b
 ·
  exact h2 rfl
 ·
  exact h rfl
theorem Yuw {α β : Type} {x x' : Option α} {f f' : α → Option β} (h : x = x') (h2 : ∀ a, x' = some a → f a = f' a) : bnd x f = bnd x' f' := by
 subst h
 cases x with
 | none => rfl
 | some a => exact h2 a rfl
theorem Yrl {V O : Type} {f : V → Option (Lp V O)} (I : V → Prop) (J : O → Prop) (h1 : ∀ v v', I v → f v = some (.go v') → I v') (h2 : ∀ v o, I v → f v = some (.done o) → J o) {v : V} {o : O} (h : loop f v = some o) (hv : I v) : J o := by
 obtain ⟨k, hk⟩ := Xhn.1 h
 clear h
 induction k generalizing v with
 | zero => cases hk
 | succ k ih =>
  rw [it] at hk
  cases e : f v with
  | none => rw [e] at hk; cases hk
  | some s =>
   rw [e] at hk
   cases s with
   | go y => exact ih (h1 v y hv e) hk
   | done o' => cases hk; exact h2 v o hv e
theorem Ybe (l qp p : Int) (h0 : 0 ≤ qp ∧ qp ≤ 40) (hp : 0 ≤ p ∧ p ≤ 15) : Xht l qp p = Xes l qp p := by
 unfold Xht Xes
 rw [Xan, Xak, Yiw qp p h0 hp]
theorem Ybd (l qp : Int) (h0 : 0 ≤ qp ∧ qp ≤ 40) : Xhs l qp = Xer l qp := by
 unfold Xhs Xer
 rw [Xan, Xak, Ylb qp h0]
def Xvi (k : Int) (v7 : Int × List Int) : Option (Lp (Int × List Int) (List Int)) :=
 sel (decide (v7.1 < 4)) (
 bnd (it (Xlm k v7) 10 (0, v7.2)) fun v18 =>
 some (.go (Xaa .i64 (v7.1 + 1), v18))) (
 some (.done v7.2))
theorem Yms {k : Int} {v : Int × List Int} {x : Lp (Int × List Int) (List Int)} (h : Xvi k v = some x) : Xh6 k v = some x := by
 unfold Xvi at h
 unfold Xh6
 rcases Xpc h with ⟨hb, h⟩ | ⟨hb, h⟩
 ·
  rw [hb, Xaw]
  obtain ⟨a, h1, h2⟩ := Xa7 h
  rw [Xhn.2 ⟨10, h1⟩, Xad]
  exact h2
 ·
  rw [hb, Xav]; exact h
def Xm8 (k : Int) : List Int := (it (Xvi k) 10 (0, [])).getD []
def Xmp (k i : Int) : Int := (Xaa .i64 ((Xaa .i64 ((Xaa .i64 (8 * (Xaa .i64 ((Xaa .i64 ((Xaa .i64 (k.tdiv 2)) * 4)) + (Xaa .i64 (i.tdiv 4)))))) + (Xaa .i64 ((k.tmod 2) * 4)))) + (i.tmod 4)))
theorem Ynz : ∀ k : Fin 4, (it (Xvi (k.val : Int)) 10 (0, [])).isSome = true ∧ (Xm8 (k.val : Int)).length = 16 ∧ ∀ i : Fin 16, (Xm8 (k.val : Int)).getD i.val 0 = Xmp (k.val : Int) (i.val : Int) ∧ 0 ≤ Xmp (k.val : Int) (i.val : Int) ∧ Xmp (k.val : Int) (i.val : Int) < 64 := by decide +kernel
theorem Yc3 (k : Nat) (hk : k < 4) : Xk6 k = some (Xm8 k) ∧ (Xm8 k).length = 16 ∧ ∀ i : Nat, i < 16 → (Xm8 k).getD i 0 = Xmp k i ∧ 0 ≤ Xmp k i ∧ Xmp k i < 64 := by
 obtain ⟨h1, h2, h3⟩ := Ynz ⟨k, hk⟩
 refine ⟨?_, h2, fun i hi => h3 ⟨i, hi⟩⟩
 obtain ⟨o, ho⟩ := Option.isSome_iff_exists.1 h1
 have hl := Ynw 10 (Ytb (fun v y => Yms (k := (k : Int))) 10 _ ho)
 unfold Xk6
 rw [hl, Xad]
 unfold Xm8; simp only at ho; rw [ho]; rfl
theorem Xpi (p : List Int) (c : Xju) (hc : Xix c = true) (hp : Yp4 p = true) : Xf8 p c = Xc5 p c := by
 have hq := Yll hc
 obtain ⟨hl, hb⟩ := Yrm hp
 unfold Xf8 Xc5
 rw [Xeo, Xdk, Xn0 p (by omega), hp, hc, Xio p 64 5000 (by omega) (by omega) (by omega) hb]
 simp only [Xad, Xaw, Bool.not_true, Xav]
 rw [Xqa 8 (Or.inr rfl) p (by omega)]
 refine Yn4 (fun _ => rfl) fun _ => Yn4 (fun _ => ?_) fun _ => ?_
 ·
  obtain ⟨w, ew, w1, w2⟩ := Xe3 8 (Or.inr rfl) p 5000 (by omega) (by omega) hb
  rw [ew, Xad, Xad]
  have hloop : loop (Xd9 c (w, true)) (0, (w, true).1) = loop (Xbd c) (0, (w, true).1) := by
   have : Xd9 c (w, true) = Xbd c := by
    funext v
    unfold Xd9 Xbd
    simp only [Ybd _ _ hq, w1, hl]
    rfl
   rw [this]
  rw [hloop]
  obtain ⟨l, el, l1, l2⟩ := Xrk (f := Xbd c) 64 (fun x => -5000 ≤ x ∧ x ≤ 5000) (fun x => -5760000 ≤ x ∧ x ≤ 5760000) (by
   intro i l hi hll hx
   obtain ⟨d, ed, d1, d2⟩ := Xoh (l.getD i 0) c.Qp hx hq
   unfold Xbd
   simp only [Int.toNat_natCast]
   rw [Xaj (by omega), Xai (by omega), Xai (by omega), ed, Xad, Xai (by omega), Xai (by omega), wk (e := (i : Int) + 1) (by omega) (by omega)]
   exact ⟨d, rfl, d1, d2⟩) (by intro s; unfold Xbd; rw [Xap (by simp)]) w (by omega) w2
  simp only [el, Xad]
  rw [Ybc l l1 (Yjt l2 (by omega))]
 ·
  refine Ykd fun _ => Yuw ?_ fun _ _ => rfl
  refine Xxa (fun v => (∃ k : Nat, v.1 = (k : Int) ∧ k ≤ 4) ∧ v.2.length = 64) ?_ ?_ ⟨⟨0, rfl, by omega⟩, by simp⟩
  ·
   intro ⟨k0, s⟩ ⟨⟨k, ek, hk⟩, hs⟩
   simp only at ek hs
   subst ek
   unfold Xib Xb4
   simp only
   refine Yn4 (fun hk4 => ?_) fun _ => rfl
   have hk4 : k < 4 := by have := of_decide_eq_true hk4; omega
   rw [wk (e := 16 * (k : Int)) (by omega) (by omega), wk (e := 16 * (k : Int) + 16) (by omega) (by omega)]
   refine Ykd fun _ => ?_
   rw [show (16 * (k : Int)).toNat = 16 * k by omega, show (16 * (k : Int) + 16).toNat - 16 * k = 16 by omega]
   have hcut : ((p.drop (16 * k)).take 16).length = 16 := by rw [List.length_take, List.length_drop]; omega
   obtain ⟨a, ea, a1, a2⟩ := Xe3 4 (Or.inl rfl) ((p.drop (16 * k)).take 16) 5000 (by omega) (by omega) (Yos (Yor hb _) _)
   rw [Xqa 4 (Or.inl rfl) _ (by omega), ea, Xad, Xad]
   have hloop : loop (Xdv c (a, true)) (0, (a, true).1) = loop (Xbb c) (0, (a, true).1) := by
    have : Xdv c (a, true) = Xbb c := by
     funext v
     unfold Xdv Xbb
     simp only [show ((a.length : Nat) : Int) = 16 by omega]
     refine Yn4 (fun h16 => ?_) fun _ => rfl
     have := of_decide_eq_true h16
     refine Ykd fun h0 => Ykd fun _ => ?_
     rw [Ybe _ _ _ hq (by omega)]
    rw [this]
   rw [hloop]
   obtain ⟨l, el, l1, l2⟩ := Xrk (f := Xbb c) 16 (fun x => -5000 ≤ x ∧ x ≤ 5000) (fun x => -10000000 ≤ x ∧ x ≤ 10000000) (by
    intro i l hi hll hx
    obtain ⟨d, ed, d1, d2⟩ := Xok (l.getD i 0) c.Qp i hx hq (by omega)
    unfold Xbb
    simp only [Int.toNat_natCast]
    rw [Xaj (by omega), Xai (by omega), Xai (by omega), ed, Xad, Xai (by omega), Xai (by omega), wk (e := (i : Int) + 1) (by omega) (by omega)]
    exact ⟨d, rfl, d1, d2⟩) (by intro s; unfold Xbb; rw [Xap (by simp)]) a (by omega) a2
   obtain ⟨b, eb, b1, b2⟩ := Xpt l l1 l2
   obtain ⟨q1, q2, q3⟩ := Yc3 k hk4
   simp only [el, Xad]
   rw [Yfl l l1 l2, eb, Xad, Xad, q1, Xad]
   refine Yuw ?_ fun _ _ => rfl
   have : Xfh b (Xm8 k) = Xbe ((k : Int), s) b := by
    funext v
    unfold Xfh Xbe
    simp only [show (((Xm8 k).length : Nat) : Int) = 16 by omega]
    refine Yn4 (fun h16 => ?_) fun _ => rfl
    have h16 := of_decide_eq_true h16
    by_cases h0 : 0 ≤ v.1
    ·
     obtain ⟨i, hi⟩ : ∃ i : Nat, v.1 = (i : Int) := ⟨v.1.toNat, by omega⟩
     obtain ⟨v1, v2⟩ := v
     simp only at hi h0 h16
     subst hi
     obtain ⟨r1, r2, r3⟩ := q3 i (by omega)
     have e1 : (Xaa .i64 ((Xaa .i64 ((Xaa .i64 (8 * (Xaa .i64 ((Xaa .i64 ((Xaa .i64 ((k : Int).tdiv 2)) * 4)) + (Xaa .i64 ((i : Int).tdiv 4)))))) + (Xaa .i64 (((k : Int).tmod 2) * 4)))) + ((i : Int).tmod 4))) = Xmp k i := rfl
     simp only [Int.toNat_natCast, r1, e1]
     refine Xsq (by omega) (Xsq (by omega) (Xsq (by omega) (Xsq (by omega) ?_)))
     refine (Xsq (by omega) (Xsq (by omega) (Xsq (by omega) (Xsq (by omega) (Xsq (by omega) (Xsq (by omega) ?_)))))).symm
     rfl
    ·
     unfold req
     rw [if_neg (by omega), if_pos (by omega), if_pos (by omega), if_pos (by omega), if_pos (by omega), if_neg (by omega)]
   rw [this]
  ·
   intro ⟨k0, s⟩ v' ⟨⟨k, ek, hk⟩, hs⟩ he
   simp only at ek hs
   subst ek
   unfold Xb4 at he
   simp only at he
   rcases Xpc he with ⟨hb4, he⟩ | ⟨_, he⟩
   ·
    have hk4 : k < 4 := by have := of_decide_eq_true hb4; omega
    obtain ⟨_, he⟩ := Xa5 he
    obtain ⟨a, _, he⟩ := Xa7 he
    obtain ⟨l, _, he⟩ := Xa7 he
    obtain ⟨b, _, he⟩ := Xa7 he
    obtain ⟨r, hr, he⟩ := Xa7 he
    rw [wk (e := (k : Int) + 1) (by omega) (by omega)] at he
    cases he
    refine ⟨⟨k + 1, rfl, by omega⟩, ?_⟩
    refine Yrl (f := Xbe ((k : Int), s) b) (fun v => v.2.length = 64) (fun o => o.length = 64) ?_ ?_ hr hs
    ·
     intro v v' hv he
     unfold Xbe at he
     rcases Xpc he with ⟨_, he⟩ | ⟨_, he⟩
     ·
      obtain ⟨_, he⟩ := Xa5 he
      obtain ⟨_, he⟩ := Xa5 he
      obtain ⟨_, he⟩ := Xa5 he
      obtain ⟨_, he⟩ := Xa5 he
      obtain ⟨_, he⟩ := Xa5 he
      obtain ⟨_, he⟩ := Xa5 he
      obtain ⟨_, he⟩ := Xa5 he
      obtain ⟨_, he⟩ := Xa5 he
      cases he
      simp only [List.length_set]; exact hv
     ·
      cases he
    ·
     intro v o hv he
     unfold Xbe at he
     rcases Xpc he with ⟨_, he⟩ | ⟨_, he⟩
     ·
      obtain ⟨_, he⟩ := Xa5 he
      obtain ⟨_, he⟩ := Xa5 he
      obtain ⟨_, he⟩ := Xa5 he
      obtain ⟨_, he⟩ := Xa5 he
      obtain ⟨_, he⟩ := Xa5 he
      obtain ⟨_, he⟩ := Xa5 he
      obtain ⟨_, he⟩ := Xa5 he
      obtain ⟨_, he⟩ := Xa5 he
      cases he
     ·
      cases he; exact hv
   ·
    cases he
theorem Yo3 {S O : Type} {f g : Int × S → Option (Lp (Int × S) O)} (n : Nat) (I : Nat → S → Prop) (h : ∀ (i : Nat) (s : S), i ≤ n → I i s → f ((i : Int), s) = g ((i : Int), s)) (hI : ∀ (i : Nat) (s : S) (v' : Int × S), i ≤ n → I i s → g ((i : Int), s) = some (.go v') → v'.1 = ((i + 1 : Nat) : Int) ∧ i + 1 ≤ n ∧ I (i + 1) v'.2) {s0 : S} (h0 : I 0 s0) : loop f (0, s0) = loop g (0, s0) := by
 refine Xxa (fun v => ∃ i : Nat, v.1 = (i : Int) ∧ i ≤ n ∧ I i v.2) ?_ ?_ ⟨0, rfl, by omega, h0⟩
 ·
  intro ⟨k, s⟩ ⟨i, e, hi, hs⟩
  simp only at e hs
  subst e
  exact h i s hi hs
 ·
  intro ⟨k, s⟩ v' ⟨i, e, hi, hs⟩ he
  simp only at e hs
  subst e
  obtain ⟨a, b, c⟩ := hI i s v' hi hs he
  exact ⟨i + 1, a, b, c⟩
theorem Yln {p : Pic} (ok : Xcp p = true) (x y : Int) : Xed p x y = Xe0 p x y := by rw [Ycp ok, Xji ok]
theorem Xqn {p : Pic} (ok : Xcp p = true) {x y : Int} (hx : x.tmod 8 = 0) (hy : y.tmod 8 = 0) (h : Xky p x y = true) : Xcq p x y = some true := Xzc ok x y hx hy h
theorem Yis {p : Pic} (ok : Xcp p = true) {x y : Int} (hx : x.tmod 8 = 0) (hy : y.tmod 8 = 0) (h : Xky p x y = true) : Xk0 p x y = Xgg p x y := by
 unfold Xk0 Xgg
 rw [Xct, ok, Xqn ok hx hy h, Xlq ok hx hy h]
 have : Xi1 p x y = Xdz p x y := by
  funext v
  unfold Xi1 Xdz
  simp only [Yln ok]
 simp only [Xad, Xaw, Bool.not_true, Xav, this, Yln ok]
theorem Ynb {e : Xjw} (h : Xx7 e) : Xk1 e = some true := by
 obtain ⟨h1, h2, h3, h4, h5, h6⟩ := h
 have side : ∀ l : List Int, (l.length = 0 ∨ l.length = 8) → (∀ x ∈ l, 0 ≤ x ∧ x ≤ 255) → bnd (sel (decide ((l.length : Int) > 0)) (bnd (Xds l 8 0 255) fun q10 => some (!q10)) (some false)) (fun v9 => some v9) = some false := by
  intro l hl hb
  rcases hl with e | e
  ·
   rw [Xap (by omega)]; rfl
  ·
   rw [Xaj (by omega), Xlz l 8 0 255 (by omega)]
   have : (l.all fun x => decide (0 ≤ x ∧ x ≤ 255)) = true := List.all_eq_true.2 fun x hx => decide_eq_true (hb x hx)
   rw [this, e]; rfl
 have go : ∀ (i : Nat) (l : List Int), i < 2 → ([e.Above, e.Left]).getD i Xko = l → (l.length = 0 ∨ l.length = 8) → (∀ x ∈ l, 0 ≤ x ∧ x ≤ 255) → Xev e (i : Int) = some (.go ((i + 1 : Nat) : Int)) := by
  intro i l hi hg hl hb
  unfold Xev
  simp only [Int.toNat_natCast, hg]
  have hs := side l hl hb
  rw [Xaj (by simp only [List.length_cons, List.length_nil]; omega), Xai (by simp only [List.length_cons, List.length_nil]; omega), Xai (by simp only [List.length_cons, List.length_nil]; omega)]
  obtain ⟨a, ea, hs⟩ := Xa7 hs
  injection hs with hs
  subst hs
  rw [ea, Xad, Xav, wk (by omega) (by omega)]
  rfl
 unfold Xk1
 have : loop (Xev e) 0 = some (.out ()) := by
  refine lgo (go 0 e.Above (by omega) rfl h1 h3) (lgo (go 1 e.Left (by omega) rfl h2 h4) (Xda ?_))
  unfold Xev
  rw [Xap (by simp)]
 rw [this, Xad, Xan, Xad, decide_eq_true ⟨h5, h6⟩]
def Ypk (l : List Int) : Nat → Int
 | 0 => 0
 | n + 1 => Ypk l n + l.getD n 0
theorem Xrq {l : List Int} (h : ∀ x ∈ l, 0 ≤ x ∧ x ≤ 255) : ∀ n : Nat, n ≤ l.length → 0 ≤ Ypk l n ∧ Ypk l n ≤ 255 * n
 | 0, _ => by simp [Ypk]
 | n + 1, hn => by
  have a := Xrq h n (by omega)
  have b := h (l.getD n 0) (by rw [Xcb l n (by omega)]; exact List.getElem_mem _)
  rw [Ypk]; omega
theorem Yk0 {f : Int × Int → Option (Lp (Int × Int) Int)} {l : List Int} (hl : l.length ≤ 64) (h : ∀ x ∈ l, 0 ≤ x ∧ x ≤ 255) (hf : ∀ v, f v = sel (decide (v.2 < (l.length : Int))) (req (0 ≤ v.2 ∧ v.2 < l.length) <| some (.go (Xaa .i64 (v.1 + (l.getD v.2.toNat 0)), Xaa .i64 (v.2 + 1)))) (some (.done v.1))) (a : Int) (ha : 0 ≤ a ∧ a ≤ 100000) : loop f (a, 0) = some (a + Ypk l l.length) := by
 obtain ⟨o, e, ho⟩ := Xm3 (f := f) l.length (fun i s => s = a + Ypk l i) (by
  intro i s hi g
  have r := Xrq h i (by omega)
  have b := h (l.getD i 0) (by rw [Xcb l i (by omega)]; exact List.getElem_mem _)
  rw [hf]
  simp only [Int.toNat_natCast]
  rw [Xaj (by omega), Xai (by omega), wk (e := s + l.getD i 0) (by omega) (by omega), wk (e := (i : Int) + 1) (by omega) (by omega)]
  exact ⟨_, rfl, by rw [Ypk]; omega⟩) (by intro s; rw [hf, Xap (by simp)]) a (by simp [Ypk])
 rw [e, ho]
theorem Xu3 {l : List Int} (hl : l.length ≤ 64) (h : ∀ x ∈ l, 0 ≤ x ∧ x ≤ 255) : Xb5 l = some (Ypk l l.length) := by
 unfold Xb5
 rw [Yk0 (f := Xdi l) hl h (fun _ => rfl) 0 (by omega), Xad, Int.zero_add]
theorem Yrq {e : Xjw} (h : Xx7 e) : (sel (decide ((Xaa .i64 ((e.Above.length : Int) + (e.Left.length : Int))) > 0)) (bnd (Xb5 e.Above) fun q5 => bnd (Xb5 e.Left) fun q6 => req ((2 : Int) ≠ 0) <| req ((Xaa .i64 ((e.Above.length : Int) + (e.Left.length : Int))) ≠ 0) <|
  some (Xaa .i64 ((Xaa .i64 ((Xaa .i64 (q5 + q6)) + (Xaa .i64 ((Xaa .i64 ((e.Above.length : Int) + (e.Left.length : Int))).tdiv 2)))).tdiv (Xaa .i64 ((e.Above.length : Int) + (e.Left.length : Int)))))) (some 128)) = Xif e := by
 obtain ⟨h1, h2, h3, h4, h5, h6⟩ := h
 unfold Xif
 have r1 := Xrq h3 e.Above.length (Nat.le_refl _)
 have r2 := Xrq h4 e.Left.length (Nat.le_refl _)
 rw [wk (e := (e.Above.length : Int) + (e.Left.length : Int)) (by omega) (by omega)]
 by_cases hz : (e.Above.length : Int) + (e.Left.length : Int) = 0
 ·
  rw [Xap (by omega), Xb1 (by simpa using hz)]
 ·
  rw [Xaj (by omega), Xbg (by simpa using hz), Xu3 (by omega) h3, Xad, Xu3 (by omega) h4, Xad, Xai (by omega), Xai hz, Xai (by omega), Xbn (a := (e.Above.length : Int) + (e.Left.length : Int)) (by omega), wk (e := ((e.Above.length : Int) + (e.Left.length : Int)) / 2) (by omega) (by omega),
   Yk0 (f := Xf2 e) (by omega) h3 (fun _ => rfl) _ (by omega), Xad, Yk0 (f := Xf3 e) (by omega) h4 (fun _ => rfl) _ (by omega), Xad, Xai hz, wk (e := Ypk e.Above e.Above.length + Ypk e.Left e.Left.length) (by omega) (by omega), wk (e := Ypk e.Above e.Above.length + Ypk e.Left e.Left.length + ((e.Above.length : Int) + (e.Left.length : Int)) / 2) (by omega) (by omega)]
  congr 3; omega
theorem Ymm (l : List Int) (hl : l.length = 0 ∨ l.length = 8) : ∃ g, Xj6 l = some g ∧ g.length = 8 ∧ ∀ k : Nat, k < 8 → Xcy l k = some (g.getD k 0) := by
 unfold Xj6
 rcases hl with e | e
 ·
  refine ⟨_, Xb1 (by rw [e]; rfl), rfl, fun k hk => ?_⟩
  unfold Xcy
  rw [Xb1 (by rw [e]; rfl)]
  congr 1
  obtain rfl | rfl | rfl | rfl | rfl | rfl | rfl | rfl : k = 0 ∨ k = 1 ∨ k = 2 ∨ k = 3 ∨ k = 4 ∨ k = 5 ∨ k = 6 ∨ k = 7 := by omega
  all_goals rfl
 ·
  refine ⟨l, Xbg (by rw [e]; rfl), e, fun k hk => ?_⟩
  unfold Xcy
  rw [Xbg (by rw [e]; rfl), Xai (by omega), Int.toNat_natCast]
theorem Yi7 (n a b : Int) : Xd8 n a b = Xeh n a b := by rw [Xi0, Xez]
def Xwi (m mid v : Int) (A B : List Int) (i : Nat) : Int := sel (m == 0) mid (sel (m == 1) (A.getD (i % 8) 0) (sel (m == 2) (B.getD (i / 8) 0) (Xc0 (Xaa .i64 (Xaa .i64 (B.getD (i / 8) 0 + A.getD (i % 8) 0) - v)) 0 255)))
theorem Yp3 {f1 : Int × List Int → Option (Lp (Int × List Int) (List Int))} {f2 : Int × List Int → Int × List Int → Option (Lp (Int × List Int) (List Int))} (g : Nat → Int)
  (h1 : ∀ v, f1 v = sel (decide (v.1 < 8)) (bnd (loop (f2 v) (0, v.2)) fun w => some (.go (Xaa .i64 (v.1 + 1), w))) (some (.done v.2)))
  (h2 : ∀ (r c : Nat) (a s : List Int), r < 8 → c < 8 → s.length = 8 * r + c → f2 ((r : Int), a) ((c : Int), s) = some (.go (((c + 1 : Nat) : Int), s ++ [g (8 * r + c)])))
  (h3 : ∀ (r : Nat) (a s : List Int), f2 ((r : Int), a) (8, s) = some (.done s)) : loop f1 (0, []) = some ((List.range 64).map g) := by
 obtain ⟨o, e, ho⟩ := Xeu (f := f1) 8 (fun r s => s = (List.range (8 * r)).map g) (by
  intro r s hr hs
  obtain ⟨q, eq, hq⟩ := Xhk (f := f2 ((r : Int), s)) 8 (fun c s' => s' = (List.range (8 * r + c)).map g) (by
   intro c s' hc hs'
   exact ⟨_, h2 r c s s' hr hc (by rw [hs']; simp), by rw [hs', show 8 * r + (c + 1) = (8 * r + c) + 1 by omega, List.range_succ, List.map_append]; rfl⟩) (fun z _ => h3 r s z) s hs
  rw [h1]
  refine ⟨q, ?_, by rw [hq, show 8 * (r + 1) = 8 * r + 8 by omega]⟩
  simp only
  rw [Xaj (by omega), eq, Xad, wk (by omega) (by omega)]
  rfl) (by intro s; rw [h1, Xap (by simp)]) [] rfl
 rw [e, ho]
theorem Yk8 (m : Int) (hm0 : 0 ≤ m ∧ m ≤ 3) {e : Xjw} (h : Xx7 e) : ∃ g, Xii m e = some g ∧ Xfc m e = some g := by
 have hm : maxLen = 9223372036854775807 := rfl
 obtain ⟨mid, em, m1, m2⟩ := Xs0 h
 obtain ⟨A, eA, hA, fA⟩ := Ymm e.Above h.1
 obtain ⟨B, eB, hB, fB⟩ := Ymm e.Left h.2.1
 obtain ⟨v, ev⟩ : ∃ v, sel (decide (e.Corner < 0)) (some (128 : Int)) (some e.Corner) = some v := by rw [Yr6]; exact ⟨_, rfl⟩
 refine ⟨(List.range 64).map (Xwi m mid v A B), ?_, ?_⟩
 ·
  unfold Xii
  rw [Ynb h, Xad, Xaw, Xan, Xad, decide_eq_true hm0, Bool.not_true, Xad, Xav, Yrq h, em, Xad, eA, Xad, eB, Xad, ev, Xad, Yp3 (f1 := Xlk m mid A B v) (f2 := Xfn m mid A B v) (Xwi m mid v A B) (fun _ => rfl) ?_ ?_, Xad]
  ·
   intro r c a s hr hc hs
   unfold Xfn Xwi
   simp only [Int.toNat_natCast, Xi0, Xad]
   rw [Xaj (by omega), wk (e := (c : Int) + 1) (by omega) (by omega), show (8 * r + c) % 8 = c by omega, show (8 * r + c) / 8 = r by omega]
   cases (m == 0) with
   | true => rw [Xaw, Xai (by simp only [List.length_singleton]; omega), Xad]; rfl
   | false =>
    rw [Xav]
    cases (m == 1) with
    | true => rw [Xaw, Xai (by omega), Xai (by simp only [List.length_singleton]; omega), Xad]; rfl
    | false =>
     rw [Xav]
     cases (m == 2) with
     | true => rw [Xaw, Xai (by omega), Xai (by simp only [List.length_singleton]; omega), Xad]; rfl
     | false => rw [Xav, Xai (by omega), Xai (by omega), Xai (by simp only [List.length_singleton]; omega), Xad]; rfl
  ·
   intro r a s
   unfold Xfn
   rw [Xap (by simp)]
 ·
  unfold Xfc
  rw [Xps h, Xad, Xaw, Xak, Xad, decide_eq_true hm0, Bool.not_true, Xad, Xav, ev, Xad]
  obtain ⟨o, eo, ho⟩ := Xeu (f := Xc4 m e v) 64 (fun i s => s = (List.range i).map (Xwi m mid v A B)) (by
   intro i s hi hs
   have hlen : s.length = i := by rw [hs]; simp
   refine ⟨s ++ [Xwi m mid v A B i], ?_, by rw [hs, List.range_succ, List.map_append]; rfl⟩
   unfold Xc4 Xwi
   simp only
   rw [Xaj (by omega), Xai (by omega), Xca (by omega), show (i : Int) % 8 = ((i % 8 : Nat) : Int) by omega, fA _ (by omega), Xad, Xai (by omega), Xbn (by omega), wk (e := (i : Int) / 8) (by omega) (by omega), show (i : Int) / 8 = ((i / 8 : Nat) : Int) by omega, fB _ (by omega), Xad, wk (e := (i : Int) + 1) (by omega) (by omega), em]
   cases (m == 0) with
   | true => rw [Xaw, Xad, Xai (by simp only [List.length_singleton]; omega), Xad]; rfl
   | false =>
    rw [Xav]
    cases (m == 1) with
    | true => rw [Xaw, Xai (by simp only [List.length_singleton]; omega), Xad]; rfl
    | false =>
     rw [Xav]
     cases (m == 2) with
     | true => rw [Xaw, Xai (by simp only [List.length_singleton]; omega), Xad]; rfl
     | false => rw [Xav, Xez, Xad, Xai (by simp only [List.length_singleton]; omega), Xad]; rfl) (by intro s; unfold Xc4; rw [Xap (by simp)]) [] rfl
  rw [eo, Xad, ho]
theorem Yit (m : Int) (hm0 : 0 ≤ m ∧ m ≤ 3) {e : Xjw} (h : Xx7 e) : Xii m e = Xfc m e := by
 obtain ⟨g, h1, h2⟩ := Yk8 m hm0 h
 rw [h1, h2]
theorem Xx3 (g b : List Int) (hg : Xmd g = true) (hl : b.length = 64) (hb : inB 10000000 b) : Xjy g b = Xgh g b := by
 obtain ⟨g1, g2⟩ := Xqd hg
 unfold Xjy Xgh
 rw [Xp2 g hg, Ycn g (by omega), hg, Ybj b 64 10000000 (by omega) (by omega) hb, Xio b 64 10000000 (by omega) (by omega) (by omega) hb]
 have : Xkq g b = Xeq g b := by
  funext v
  unfold Xkq Xeq
  simp only [Yi7, show ((g.length : Nat) : Int) = 64 by omega]
 simp only [Xad, Xaw, Bool.not_true, Xav, this]
theorem Ym4 {s : Xay} (h : Xq9 s = true) (h1 : s.Kind = 0) : s.Dx = 0 ∧ s.Dy = 0 := by
 unfold Xq9 at h
 rw [h1] at h
 simp at h
 exact ⟨h.2.1, h.2.2.1⟩
theorem Ytt {s : Xay} (h : Xq9 s = true) : (-16 ≤ s.Dx ∧ s.Dx ≤ 16) ∧ (-16 ≤ s.Dy ∧ s.Dy ≤ 16) := by
 have hk := Ym3 h
 obtain h1 | h1 | h1 : s.Kind = 0 ∨ s.Kind = 1 ∨ s.Kind = 2 := by omega
 ·
  obtain ⟨a, b⟩ := Ym4 h h1; omega
 ·
  obtain ⟨a, b, _⟩ := Ypg h h1; exact ⟨a, b⟩
 ·
  unfold Xq9 at h
  rw [h1] at h
  simp at h
  omega
theorem Ycx (s : Xay) (c : Xju) : Xf9 s c = some (Xlr s c) := by
 unfold Xf9 Xlr
 cases c.Key <;> rfl
structure Yuo (now ref : Pic) (l t x y : Int) (c : Xju) (q : Xay) : Prop where
 ok : Xcp now = true
 hx : x.tmod 8 = 0
 hy : y.tmod 8 = 0
 h0 : Xky now x y = true
 hl : 0 ≤ l ∧ l ≤ 256
 ht : 0 ≤ t ∧ t ≤ 256
 hc : Xix c = true
 hs : q.Levels.length ≤ 1048576
theorem Yix {now ref : Pic} {l t x y : Int} {c : Xju} {q : Xay} (h : Yuo now ref l t x y c q) (hq : (Xq9 q && Xlr q c) = false) : Xc2 now ref l t c x y q = some ([], false) := by
 unfold Xc2
 rw [Xct, Xad, h.ok, Xaw, Xqn h.ok h.hx h.hy h.h0, Xad, Xaw, Xan, Xad, decide_eq_true h.hl, Xaw, Xan, Xad, decide_eq_true h.ht, Xaw, Xfo q (by have := h.hs; omega), Xad, Xdk, Xad, h.hc, Xaw, Ycx, Xad]
 cases h1 : Xq9 q with
 | false => rfl
 | true =>
  rw [h1, Bool.true_and] at hq
  rw [hq]; rfl
end Go.Proofs.YtjgbfopmjpkkhaaGreat.A.Pure
