/- The pure statement of the law FnExactDecAll, part 1: over numbers, texts and lists alone, what the law computes is true. Conditions: the sizes of what a machine holds. -/
import Derived.Test.YtjgbfopmjpkkhaaGreatDFnExactDecAll
namespace Go.Proofs.YtjgbfopmjpkkhaaGreat.A.Pure
open Go Go.Proofs Go.Proofs.YtjgbfopmjpkkhaaGreatAL Go.RowKit
set_option linter.unusedVariables false
set_option linter.unusedSimpArgs false
set_option maxHeartbeats 1000000
theorem Xad {α β : Type} (a : α) (f : α → Option β) : bnd (some a) f = f a := rfl
theorem Xgk {α β : Type} {x : Option α} {a : α} {f : α → Option β} (h : x = some a) : bnd x f = f a := by subst h; rfl
theorem Xaw {β : Type} (x y : β) : sel true x y = x := rfl
theorem Xav {β : Type} (x y : β) : sel false x y = y := rfl
theorem Yo7 {β : Type} (b : Bool) (x y : β) : sel (!b) x y = sel b y x := by cases b <;> rfl
theorem Xd7 (b x : Bool) : sel b (some x) (some false) = some (b && x) := by cases b <;> rfl
theorem Yko (b x : Bool) : sel b (some true) (some x) = some (b || x) := by cases b <;> rfl
theorem Ymr (b x : Bool) : sel b (some x) (some true) = some (!b || x) := by cases b <;> rfl
theorem Yug {β : Type} (b : Bool) (x y : β) : sel b (some x) (some y) = some (sel b x y) := by cases b <;> rfl
theorem Ymq {β : Type} (b : Bool) (x y : β) : sel b x y = if b = true then x else y := by cases b <;> rfl
theorem Yi2 {β : Type} (p : Prop) [Decidable p] (x y : β) : sel (decide p) x y = if p then x else y := by
 by_cases h : p <;> simp [h, sel]
theorem Xb2 {β : Type} {b : Bool} {x y : β} (h : b = true) : sel b x y = x := by subst h; rfl
theorem Xa8 {β : Type} {b : Bool} {x y : β} (h : b = false) : sel b x y = y := by subst h; rfl
theorem Xaj {β : Type} {p : Prop} [Decidable p] {x y : β} (h : p) : sel (decide p) x y = x := by simp [h, sel]
theorem Xam {β : Type} {p : Prop} [Decidable p] {x y : β} (h : ¬ p) : sel (decide p) x y = y := by simp [h, sel]
theorem Xai {β : Type} {c : Prop} [Decidable c] {k : Option β} (h : c) : req c k = k := if_pos h
theorem wk {e : Int} (h1 : -9223372036854775808 ≤ e) (h2 : e ≤ 9223372036854775807) : Xaa .i64 e = e := by
 show wrap64 e = e
 unfold wrap64; omega
theorem w8 {e : Int} (h1 : 0 ≤ e) (h2 : e ≤ 255) : Xaa .u8 e = e := by
 show IntKind.wrap .u8 e = e
 simp [IntKind.wrap, IntKind.signed, IntKind.bits]; omega
theorem Xcd {a b : Int} (h : 0 ≤ a) : Int.tmod a b = a % b := Int.tmod_eq_emod_of_nonneg h
theorem Xbl {a b : Int} (h : 0 ≤ a) : Int.tdiv a b = a / b := Int.tdiv_eq_ediv_of_nonneg h
theorem Xgo {P : Nat → Prop} (n : Nat) (h0 : P n) (hs : ∀ i, i < n → P (i + 1) → P i) : ∀ i, i ≤ n → P i := by
 intro i hi
 obtain ⟨k, rfl⟩ : ∃ k, n = i + k := ⟨n - i, by omega⟩
 clear hi
 induction k generalizing i with
 | zero => exact h0
 | succ k ih =>
  refine hs i (by omega) ?_
  exact ih (i + 1) (by rw [show i + 1 + k = i + (k + 1) by omega]; exact h0) (fun j hj => hs j (by omega))
theorem lgo {V O : Type} {f : V → Option (Lp V O)} {x y : V} {r : Option O} (h : f x = some (.go y)) (k : loop f y = r) : loop f x = r := by rw [Xnm h]; exact k
theorem Xck {V O : Type} {f : V → Option (Lp V O)} {x : V} {o : O} (h : f x = some (.done o)) : loop f x = some o := Xb7 h
theorem Yvu {V O : Type} {f : V → Option (Lp V O)} (I : V → Prop) (m : V → Nat) (Q : V → O → Prop) (h : ∀ v, I v → (∃ o, f v = some (.done o) ∧ Q v o) ∨ ∃ v', f v = some (.go v') ∧ I v' ∧ m v' < m v ∧ ∀ o, Q v' o → Q v o) : ∀ v, I v → ∃ o, loop f v = some o ∧ Q v o := by
 intro v
 generalize hn : m v = n
 induction n using Nat.strongRecOn generalizing v with
 | _ n ih =>
  intro hv
  rcases h v hv with ⟨o, h1, h2⟩ | ⟨v', h1, h2, h3, h4⟩
  ·
   exact ⟨o, Xb7 h1, h2⟩
  ·
   obtain ⟨o, h5, h6⟩ := ih (m v') (by omega) v' rfl h2
   exact ⟨o, by rw [Xnm h1]; exact h5, h4 o h6⟩
theorem Xce {α : Type} (l : List α) (i : Nat) (h : i < l.length) (d : α) : l.getD i d = l[i] := by
 simp [List.getD_eq_getElem?_getD, List.getElem?_eq_getElem h]
theorem Xao (a b c : Int) : Xat a b c = some (decide (b ≤ a ∧ a ≤ c)) := by
 unfold Xat
 by_cases h : b ≤ a <;> simp [bnd, sel, h]
theorem Xak (a b c : Int) : Xax a b c = some (decide (b ≤ a ∧ a ≤ c)) := by
 unfold Xax
 by_cases h : b ≤ a <;> simp [bnd, sel, h]
theorem Xy2 {α : Type} (a : List α) (x y : α) (b : List α) : (a ++ x :: b).set a.length y = a ++ y :: b := by
 induction a with
 | nil => rfl
 | cons z a ih => simp only [List.cons_append, List.length_cons, List.set_cons_succ, ih]
theorem Xlg {α : Type} (a : List α) (x d : α) (b : List α) : (a ++ x :: b).getD a.length d = x := by
 induction a with
 | nil => rfl
 | cons z a ih => simp
theorem Ynw {α β : Type} (l : List α) (g : α → β) (d : α) (e : β) {f : (Int × List β) → Option (Lp (Int × List β) (List β))}
  (h : ∀ (i : Nat) (o : List β), i < l.length → o.length = l.length → f ((i : Int), o) = some (.go (((i + 1 : Nat) : Int), o.set i (g (l.getD i d))))) (h0 : ∀ o, f ((l.length : Int), o) = some (.done o)) : loop f (0, List.replicate l.length e) = some (l.map g) := by
 have key : ∀ (r a : List α), l = a ++ r → loop f ((a.length : Int), a.map g ++ List.replicate r.length e) = some (l.map g) := by
  intro r
  induction r with
  | nil =>
   intro a ha
   rw [List.append_nil] at ha
   subst ha
   rw [Xb7 (h0 _)]; simp
  | cons x r ih =>
   intro a ha
   have hlen : a.length < l.length := by rw [ha]; simp
   rw [Xnm (h a.length _ hlen (by rw [ha]; simp))]
   have e1 : l.getD a.length d = x := by rw [ha]; exact Xlg a x d r
   have e2 : (a.map g ++ List.replicate (x :: r).length e).set a.length (g x) = (a ++ [x]).map g ++ List.replicate r.length e := by
    have := Xy2 (a.map g) e (g x) (List.replicate r.length e)
    rw [List.length_map] at this
    rw [List.length_cons, List.replicate_succ, this]
    simp
   rw [e1, e2]
   have := ih (a ++ [x]) (by rw [ha]; simp)
   rw [List.length_append, List.length_singleton] at this
   exact this
 exact key l [] rfl
theorem Xno {f : Int → Option (Lp Int (Ou Unit Bool))} (n : Nat) (h : ∀ i : Nat, i < n → f i = some (.go ((i + 1 : Nat) : Int))) (h0 : f n = some (.done (.out ()))) : loop f 0 = some (.out ()) :=
 Xgo (P := fun i => loop f (i : Int) = some (.out ())) n (Xb7 h0) (fun i hi ih => by rw [Xnm (h i hi)]; exact ih) 0 (by omega)
theorem Xxn (n : Int) : (strOfNums [n]).size = 1 := rfl
theorem Ybk (k : Int) (h0 : 0 < k) (h1 : k ≤ 1000000000000) : ∃ s, Xdr k = some s := by
 unfold Xdr
 rw [Xam (by omega)]
 obtain ⟨o, h, h2⟩ := Yvu (f := Xit) (fun v => 0 ≤ v.1 ∧ v.1 + v.2.size ≤ 1000000000000) (fun v => v.1.toNat) (fun _ o => o.size ≤ 1000000000000) (by
  intro ⟨n, s⟩ ⟨a, b⟩
  unfold Xit
  simp only at a b ⊢
  by_cases h : n > 0
  ·
   rw [Xaj h, Xai (by decide), Xxn, Xai (by omega), Xai (by decide), Xbl a]
   refine .inr ⟨_, rfl, ?_, ?_, fun _ h => h⟩
   ·
    simp only [ByteArray.size_append, Xxn]
    rw [wk (by omega) (by omega)]; omega
   ·
    simp only
    rw [wk (by omega) (by omega)]; omega
  ·
   rw [Xam h]
   exact .inl ⟨_, rfl, by omega⟩) (k, ⟨#[]⟩) ⟨by simp only; omega, by simp only [show (⟨#[]⟩ : ByteArray).size = 0 from rfl]; omega⟩
 rw [h, Xad, Xai (by simp only [show (⟨#[109]⟩ : ByteArray).size = 1 from rfl]; omega)]
 exact ⟨_, rfl⟩
noncomputable def mT (k : Int) : ByteArray := (Xdr k).getD ⟨#[]⟩
theorem Xmj (k : Int) (h0 : 0 < k) (h1 : k ≤ 1000000000000) : Xdr k = some (mT k) := by
 obtain ⟨s, h⟩ := Ybk k h0 h1
 unfold mT; rw [h]; rfl
def Xc7 (n a b : Int) : Int := if b < a ∨ n < a then a else if n > b then b else n
theorem Xjn (n a b : Int) : Xei n a b = some (Xc7 n a b) := by
 unfold Xei Xc7
 congr 1
 repeat' split
 all_goals omega
theorem Xm3 {n a b : Int} (h : a ≤ b) : a ≤ Xc7 n a b ∧ Xc7 n a b ≤ b := by
 unfold Xc7
 repeat' split
 all_goals omega
theorem Xe9 (n a b : Int) : Xeq n a b = some (Xc7 n a b) := by
 unfold Xeq Xc7
 rw [Yko, Xad]
 by_cases h : b < a ∨ n < a
 ·
  rw [if_pos h, Xb2 (by simpa using h)]
 ·
  rw [if_neg h, Xa8 (by simp; omega), Yi2]; split <;> rfl
def Xjd (n : Int) : Bool := decide (1 ≤ n ∧ n ≤ 8)
def Xn5 : List Int → Int
 | [] => 0
 | x :: r => x + Xn5 r
def Xh5 (l : List Int) : Bool := decide (1 ≤ l.length ∧ l.length ≤ 4) && l.all Xjd
def Xzr (l : List Int) : Int := if Xh5 l = true then Xn5 l else 0
theorem Xp9 : ∀ {l : List Int}, l.all Xjd = true → (l.length : Int) ≤ Xn5 l ∧ Xn5 l ≤ 8 * l.length
 | [], _ => by simp [Xn5]
 | x :: r, h => by
  rw [List.all_cons, Bool.and_eq_true] at h
  have := Xp9 h.2
  have hx := h.1
  unfold Xjd at hx
  simp only [decide_eq_true_eq] at hx
  rw [Xn5, List.length_cons]
  omega
theorem Yab (l : List Int) : 0 ≤ Xzr l ∧ Xzr l ≤ 32 := by
 unfold Xzr
 split
 ·
  rename_i h
  unfold Xh5 at h
  rw [Bool.and_eq_true, decide_eq_true_eq] at h
  have := Xp9 h.2
  omega
 ·
  omega
theorem Xlp (l : List Int) : Xg7 l = some (Xzr l) := by
 unfold Xg7 Xzr Xh5
 rw [Yko, Xad]
 by_cases h : 1 ≤ l.length ∧ l.length ≤ 4
 ·
  rw [Xa8 (by simp; omega), decide_eq_true h, Bool.true_and]
  have key : ∀ (r a : List Int) (t : Int), l = a ++ r → 0 ≤ t → t ≤ 8 * a.length → loop (Xgg l) (t, (a.length : Int)) = some (if r.all Xjd = true then .out (t + Xn5 r) else .ret 0) := by
   intro r
   induction r with
   | nil =>
    intro a t ha h0 h1
    rw [List.append_nil] at ha
    refine Xck ?_
    unfold Xgg
    simp only
    rw [Xam (by rw [ha]; omega)]
    simp [Xn5]
   | cons x r ih =>
    intro a t ha h0 h1
    have hlen : a.length < l.length := by rw [ha]; simp
    have hx : l.getD a.length 0 = x := by rw [ha]; exact Xlg a x _ r
    have hstep : Xgg l (t, (a.length : Int)) = sel (Xjd x) (some (.go (Xaa .i64 (t + x), ((a.length + 1 : Nat) : Int)))) (some (.done (.ret 0))) := by
     unfold Xgg
     simp only [Int.toNat_natCast, hx]
     rw [Xaj (by omega), Xai (by omega), Xak, Xad, Yo7, Xai (by omega), wk (e := (a.length : Int) + 1) (by omega) (by omega)]
     rfl
    cases e : Xjd x with
    | true =>
     rw [e] at hstep
     have hx2 := e
     unfold Xjd at hx2
     simp only [decide_eq_true_eq] at hx2
     rw [wk (by omega) (by omega), Xaw] at hstep
     have := ih (a ++ [x]) (t + x) (by rw [ha]; simp) (by omega) (by simp; omega)
     rw [List.length_append, List.length_singleton] at this
     rw [Xnm hstep, this, List.all_cons, e, Bool.true_and, Xn5, Int.add_assoc]
    | false =>
     rw [e, Xav] at hstep
     rw [Xb7 hstep, List.all_cons, e, Bool.false_and]; rfl
  have := key l [] 0 rfl (by omega) (by simp)
  simp only [List.length_nil, Int.zero_add] at this
  rw [show (((0 : Int), (0 : Int))) = (0, ((0 : Nat) : Int)) from rfl, this, Xad]
  cases l.all Xjd <;> rfl
 ·
  rw [Xb2 (by simp; omega), decide_eq_false h, Bool.false_and]; rfl
theorem Xmx (l : List Int) (h : Xh5 l = true) : Xb6 l = some (Xn5 l) := by
 unfold Xh5 at h
 rw [Bool.and_eq_true, decide_eq_true_eq] at h
 unfold Xb6
 have key : ∀ (r a : List Int) (t : Int), l = a ++ r → 0 ≤ t → t ≤ 8 * a.length → loop (Xdq l) (t, (a.length : Int)) = some (t + Xn5 r) := by
  intro r
  induction r with
  | nil =>
   intro a t ha h0 h1
   rw [List.append_nil] at ha
   refine Xck ?_
   unfold Xdq
   simp only
   rw [Xam (by rw [ha]; omega)]
   simp [Xn5]
  | cons x r ih =>
   intro a t ha h0 h1
   have hlen : a.length < l.length := by rw [ha]; simp
   have hx : l.getD a.length 0 = x := by rw [ha]; exact Xlg a x _ r
   have e : Xjd x = true := List.all_eq_true.1 h.2 x (by rw [ha]; simp)
   unfold Xjd at e
   simp only [decide_eq_true_eq] at e
   have := ih (a ++ [x]) (t + x) (by rw [ha]; simp) (by omega) (by simp; omega)
   rw [List.length_append, List.length_singleton] at this
   rw [Xn5, ← Int.add_assoc, ← this]
   refine Xnm ?_
   unfold Xdq
   simp only [Int.toNat_natCast, hx]
   rw [Xaj (by omega), Xai (by omega), wk (e := (a.length : Int) + 1) (by omega) (by omega), wk (by omega) (by omega)]
   rfl
 have := key l [] 0 rfl (by omega) (by simp)
 simp only [List.length_nil, Int.zero_add] at this
 rw [show (((0 : Int), (0 : Int))) = (0, ((0 : Nat) : Int)) from rfl, this, Xad]
def Xn0 (s : Seq) : Int := Xzr s.Cols * Xzr s.Rows
theorem Xua (s : Seq) : 0 ≤ Xn0 s ∧ Xn0 s ≤ 1024 := by
 unfold Xn0
 have h1 := Yab s.Cols
 have h2 := Yab s.Rows
 refine ⟨Int.mul_nonneg h1.1 h2.1, ?_⟩
 calc Xzr s.Cols * Xzr s.Rows ≤ 32 * Xzr s.Rows := Int.mul_le_mul_of_nonneg_right h1.2 h2.1
  _ ≤ 1024 := by omega
theorem Xzg (s : Seq) : Xin s = some (Xn0 s) := by
 have h := Xua s
 unfold Xin
 rw [Xlp, Xad, Xlp, Xad, wk (by show _ ≤ Xn0 s; omega) (by show Xn0 s ≤ _; omega)]
 rfl
theorem Ysp (s : Seq) (n : Nat) (hn : n = 0 ∨ n = 1) (l : List Int) (hl : ([s.Cols, s.Rows]).getD n Xlf = l) (h4 : l.length ≤ 4) : loop (Xch s (n : Int)) 0 = some (if l.all Xjd = true then .out () else .ret 0) := by
 have key : ∀ (r a : List Int), l = a ++ r → loop (Xch s (n : Int)) (a.length : Int) = some (if r.all Xjd = true then .out () else .ret 0) := by
  intro r
  induction r with
  | nil =>
   intro a ha
   rw [List.append_nil] at ha
   refine Xck ?_
   unfold Xch
   rw [Int.toNat_natCast, hl, Xam (by rw [ha]; omega)]; rfl
  | cons x r ih =>
   intro a ha
   have hlen : a.length < l.length := by rw [ha]; simp
   have hx : l.getD a.length 0 = x := by rw [ha]; exact Xlg a x _ r
   have hstep : Xch s (n : Int) (a.length : Int) = sel (Xjd x) (some (.go ((a.length + 1 : Nat) : Int))) (some (.done (.ret 0))) := by
    unfold Xch
    simp only [Int.toNat_natCast, hl, hx]
    rw [Xaj (by omega), Xai (by omega), Xao, Xad, Yo7, wk (by omega) (by omega)]
    rfl
   cases e : Xjd x with
   | true =>
    rw [e, Xaw] at hstep
    have := ih (a ++ [x]) (by rw [ha]; simp)
    rw [List.length_append, List.length_singleton] at this
    rw [Xnm hstep, this, List.all_cons, e, Bool.true_and]
   | false => rw [e, Xav] at hstep; rw [Xb7 hstep, List.all_cons, e, Bool.false_and]; rfl
 exact key l [] rfl
theorem Xx9 (s : Seq) (h1 : s.Cols.length ≤ maxLen) (h2 : s.Rows.length ≤ maxLen) : Xib s = some (Xn0 s) := by
 have h := Xua s
 unfold Xib
 have step : ∀ (n : Nat) (l : List Int), n = 0 ∨ n = 1 → ([s.Cols, s.Rows]).getD n Xlf = l → Xdg s (n : Int) = sel (Xh5 l) (some (.go ((n + 1 : Nat) : Int))) (some (.done (.ret 0))) := by
  intro n l hn hl
  unfold Xdg Xh5
  rw [Int.toNat_natCast, hl]
  simp only [List.length_cons, List.length_nil]
  rw [Xaj (by omega), Xai (by omega), Xai (by omega), Xao, Xad, Yo7]
  by_cases h4 : 1 ≤ l.length ∧ l.length ≤ 4
  ·
   rw [Xaj (by omega), Ysp s n hn l hl h4.2, Xad, decide_eq_true h4, Bool.true_and, wk (by omega) (by omega)]
   cases l.all Xjd <;> rfl
  ·
   rw [Xam (by omega), decide_eq_false h4, Bool.false_and, Xav]
 have s0 := step 0 s.Cols (.inl rfl) rfl
 have s1 := step 1 s.Rows (.inr rfl) rfl
 have s2 : Xdg s ((2 : Nat) : Int) = some (.done (.out ())) := by unfold Xdg; rw [Xam (by simp)]
 rw [show (0 : Int) = ((0 : Nat) : Int) from rfl]
 unfold Xn0 at h ⊢
 unfold Xzr at h ⊢
 cases e0 : Xh5 s.Cols with
 | false => rw [e0, Xav] at s0; rw [Xb7 s0, Xad]; simp
 | true =>
  rw [e0, Xaw] at s0
  rw [Xnm s0]
  cases e1 : Xh5 s.Rows with
  | false => rw [e1, Xav] at s1; rw [Xb7 s1, Xad]; simp
  | true =>
   rw [e1, Xaw] at s1
   rw [Xnm s1, Xb7 s2, Xad]
   simp only
   rw [e0, e1, if_pos rfl, if_pos rfl] at h
   rw [Xmx _ e0, Xad, Xmx _ e1, Xad, wk (by omega) (by omega)]
   simp
def Xl3 (n : Int) : Int := if n = 1 then 16 else if n = 2 then 64 else if n = 3 then 256 else 0
theorem Xtc (n : Int) : Xfc n = some (Xl3 n) := by
 unfold Xfc Xl3
 simp only [Ymq, beq_iff_eq]
 repeat' split
 all_goals rfl
theorem Xsw (n : Int) : Xe4 n = some (Xl3 n) := by
 unfold Xe4 Xl3
 rw [Xao, Xad, Yo7]
 by_cases h : 1 ≤ n ∧ n ≤ 3
 ·
  rw [Xaj h, wk (by omega) (by omega), Xai (by simp only [List.length_cons, List.length_nil]; omega), Xai (by simp only [List.length_cons, List.length_nil]; omega)]
  rcases (show n = 1 ∨ n = 2 ∨ n = 3 by omega) with rfl | rfl | rfl <;> rfl
 ·
  rw [Xam h, if_neg (by omega), if_neg (by omega), if_neg (by omega)]
def Xmy (s : Seq) : Bool := decide (1 ≤ Xn0 s ∧ Xn0 s ≤ Xl3 s.Level) && decide (3 ≤ s.Bits ∧ s.Bits ≤ 8)
theorem Xkb (s : Seq) : Xhy s = some (Xmy s) := by
 unfold Xhy Xmy
 simp only [Xzg, Xtc, Xak, Xad, Xd7]
theorem Xhj (s : Seq) (h1 : s.Cols.length ≤ maxLen) (h2 : s.Rows.length ≤ maxLen) : Xgd s = some (Xmy s) := by
 unfold Xgd Xmy
 simp only [Xx9 s h1 h2, Xsw, Xao, Xad, Xd7]
theorem Xd8 {s : Seq} (h : Xmy s = true) : Xh5 s.Cols = true ∧ Xh5 s.Rows = true ∧ 3 ≤ s.Bits ∧ s.Bits ≤ 8 := by
 unfold Xmy at h
 rw [Bool.and_eq_true, decide_eq_true_eq, decide_eq_true_eq] at h
 obtain ⟨⟨h1, _⟩, h3⟩ := h
 unfold Xn0 Xzr at h1
 refine ⟨?_, ?_, h3⟩
 ·
  refine Classical.byContradiction fun e => ?_
  rw [if_neg e, Int.zero_mul] at h1; omega
 ·
  refine Classical.byContradiction fun e => ?_
  rw [if_neg e, Int.mul_zero] at h1; omega
def Xdm (s : Seq) : Int := if Xmy s = true then (s.Cols.length : Int) * s.Rows.length else 0
theorem Xk5 {l : List Int} (h : Xh5 l = true) : 1 ≤ l.length ∧ l.length ≤ 4 := by
 unfold Xh5 at h; rw [Bool.and_eq_true, decide_eq_true_eq] at h; exact h.1
theorem Yhh {s : Seq} (h : Xmy s = true) : 1 ≤ (s.Cols.length : Int) * s.Rows.length ∧ (s.Cols.length : Int) * s.Rows.length ≤ 16 := by
 obtain ⟨h1, h2, _⟩ := Xd8 h
 have a := Xk5 h1
 have b := Xk5 h2
 have e : ∀ x y : Nat, 1 ≤ x → x ≤ 4 → 1 ≤ y → y ≤ 4 → 1 ≤ x * y ∧ x * y ≤ 16 := by
  intro x y h1 h2 h3 h4
  rcases (show x = 1 ∨ x = 2 ∨ x = 3 ∨ x = 4 by omega) with rfl | rfl | rfl | rfl <;> omega
 have := e _ _ a.1 a.2 b.1 b.2
 rw [← Int.natCast_mul]; omega
theorem Xke (s : Seq) : Xfn s = some (Xdm s) := by
 unfold Xfn Xdm
 rw [Xkb, Xad, Yo7]
 cases h : Xmy s with
 | false => rfl
 | true => have := Yhh h; rw [Xaw, wk (by omega) (by omega), if_pos rfl]
theorem Xjw (s : Seq) (h1 : s.Cols.length ≤ maxLen) (h2 : s.Rows.length ≤ maxLen) : Xfk s = some (Xdm s) := by
 unfold Xfk Xdm
 rw [Xhj s h1 h2, Xad, Yo7]
 cases h : Xmy s with
 | false => rfl
 | true => have := Yhh h; rw [Xaw, wk (by omega) (by omega), if_pos rfl]
def Xqh (s : Seq) : Int × Int := if Xmy s = true then (8 * Xn5 s.Cols, 8 * Xn5 s.Rows) else (0, 0)
theorem Xyj {l : List Int} (h : Xh5 l = true) : 1 ≤ Xn5 l ∧ Xn5 l ≤ 32 := by
 unfold Xh5 at h
 rw [Bool.and_eq_true, decide_eq_true_eq] at h
 have := Xp9 h.2
 omega
theorem Xt5 (s : Seq) : Xi1 s = some (Xqh s) := by
 unfold Xi1 Xqh
 rw [Xkb, Xad, Yo7]
 cases h : Xmy s with
 | false => rfl
 | true =>
  obtain ⟨h1, h2, _⟩ := Xd8 h
  have a := Xyj h1
  have b := Xyj h2
  rw [Xaw, Xlp, Xad, Xlp, Xad, if_pos rfl]
  unfold Xzr
  rw [if_pos h1, if_pos h2, wk (by omega) (by omega), wk (by omega) (by omega)]
theorem Xtl (s : Seq) (h1 : s.Cols.length ≤ maxLen) (h2 : s.Rows.length ≤ maxLen) : Xiz s = some (Xqh s) := by
 unfold Xiz Xqh
 rw [Xhj s h1 h2, Xad, Yo7]
 cases h : Xmy s with
 | false => rfl
 | true =>
  obtain ⟨h1, h2, _⟩ := Xd8 h
  have a := Xyj h1
  have b := Xyj h2
  rw [Xaw, Xmx _ h1, Xad, Xmx _ h2, Xad, if_pos rfl, wk (by omega) (by omega), wk (by omega) (by omega)]
def Xuy (p : Par) : Bool := decide (0 ≤ p.Qp ∧ p.Qp ≤ 40) && !(p.Large && p.Exact)
theorem Xm1 (p : Par) : Xjf p = some (Xuy p) := by
 unfold Xjf Xuy
 rw [Xak, Xad, Ymr, Xd7, Xad]
 cases p.Large <;> cases p.Exact <;> rfl
theorem Xmv (p : Par) : Xi7 p = some (Xuy p) := by
 unfold Xi7 Xuy
 rw [Xao, Xad, Ymr, Xd7, Xad]
 cases p.Large <;> cases p.Exact <;> rfl
def Xb8 (p : Pic) : Bool := decide (1 ≤ p.Wide ∧ p.Wide ≤ 256) && (decide (1 ≤ p.High ∧ p.High ≤ 256) && ((p.Dots.size : Int) == p.Wide * p.High))
theorem Xd0 {w h : Int} (h1 : 1 ≤ w ∧ w ≤ 256) (h2 : 1 ≤ h ∧ h ≤ 256) : 1 ≤ w * h ∧ w * h ≤ 65536 := by
 have a : w * 1 ≤ w * h := Int.mul_le_mul_of_nonneg_left h2.1 (by omega)
 have b : w * h ≤ 256 * h := Int.mul_le_mul_of_nonneg_right h1.2 (by omega)
 omega
theorem Xfw (p : Pic) : Xgf p = some (Xb8 p) := by
 unfold Xgf Xb8
 simp only [Xak, Xad, Xd7]
 by_cases h1 : 1 ≤ p.Wide ∧ p.Wide ≤ 256
 ·
  by_cases h2 : 1 ≤ p.High ∧ p.High ≤ 256
  ·
   have := Xd0 h1 h2
   rw [wk (by omega) (by omega)]
  ·
   rw [decide_eq_false h2, Bool.false_and, Bool.false_and]
 ·
  rw [decide_eq_false h1, Bool.false_and, Bool.false_and]
theorem Xcg (p : Pic) : Xdf p = some (Xb8 p) := by
 unfold Xdf Xb8
 simp only [Xao, Xad, Xd7]
 by_cases h1 : 1 ≤ p.Wide ∧ p.Wide ≤ 256
 ·
  by_cases h2 : 1 ≤ p.High ∧ p.High ≤ 256
  ·
   have := Xd0 h1 h2
   rw [wk (by omega) (by omega)]
  ·
   rw [decide_eq_false h2, Bool.false_and, Bool.false_and]
 ·
  rw [decide_eq_false h1, Bool.false_and, Bool.false_and]
def Xoi (p : Pic) (s : Seq) : Bool := Xb8 p && ((p.Wide == (Xqh s).1) && (p.High == (Xqh s).2))
theorem Yn7 (p : Pic) (s : Seq) (h1 : s.Cols.length ≤ maxLen) (h2 : s.Rows.length ≤ maxLen) : Xo6 p s = some (Xoi p s) := by
 unfold Xo6 Xoi
 simp only [Xtl s h1 h2, Xcg, Xad, Xd7]
theorem Xme (l : List Int) (hl : l.length ≤ 9223372036854775806) : Xft l l = some true := by
 unfold Xft
 rw [Xa8 (by simp), Xno l.length (f := Xif l l) (by
  intro i hi
  unfold Xif
  rw [Xaj (by omega), Xai (by omega), Xai (by omega), Xa8 (by simp), wk (by omega) (by omega)]
  rfl) (by unfold Xif; rw [Xam (by omega)])]
 rfl
def Xra (k : Int) : List Int → List Int
 | [] => []
 | _ :: r => k :: Xra (k + 1) r
theorem Yoo : ∀ (l : List Int) (k : Int), (Xra k l).length = l.length
 | [], _ => rfl
 | _ :: r, k => by rw [Xra, List.length_cons, List.length_cons, Yoo r]
theorem Xmh (l : List Int) (k : Int) (h0 : 0 < k) (h1 : k ≤ 1000000000) (hl : l.length ≤ 100000000) : Xfu l k = some (k + l.length, Xra k l) := by
 unfold Xfu
 have key : ∀ (r a : List Int) (j : Int), 0 < j → j + r.length ≤ 2000000000 → a.length + r.length ≤ 100000000 → loop Xf4 (j, (a.length : Int), a ++ r) = some (j + r.length, a ++ Xra j r) := by
  intro r
  induction r with
  | nil =>
   intro a j hj1 hj2 hl
   refine Xck ?_
   unfold Xf4
   simp only [List.append_nil]
   rw [Xam (by omega)]
   simp [Xra]
  | cons p r ih =>
   intro a j hj1 hj2 hl
   simp only [List.length_cons] at hj2 hl ⊢
   have hcl : ∀ x : Int, (a ++ x :: r).length = a.length + (r.length + 1) := fun x => by simp
   refine lgo (y := (j + 1, ((a ++ [j]).length : Int), (a ++ [j]) ++ r)) ?_ ?_
   ·
    unfold Xf4
    simp only [Int.toNat_natCast, Xy2, hcl]
    rw [Xaj (by omega), Xai (by omega), Xai (by omega), wk (e := j + 1) (by omega) (by omega), wk (by omega) (by omega)]
    simp
   ·
    rw [ih _ (j + 1) (by omega) (by omega) (by simp; omega)]
    simp only [Xra, List.append_assoc, List.singleton_append]
    congr 2
    omega
 have := key l [] k h0 (by omega) (by simp; omega)
 simp only [List.length_nil, List.nil_append] at this
 rw [show ((k, 0, l) : Int × Int × List Int) = (k, ((0 : Nat) : Int), l) from rfl, this]
 rfl
theorem Xmf (l : List Int) (k : Int) (h0 : 0 < k) (h1 : k ≤ 1000000000) (hl : l.length ≤ 100000000) : Xep (Xra k l) k = some (k + l.length) := by
 unfold Xep
 have key : ∀ (r a : List Int) (j : Int), 0 < j → j + r.length ≤ 2000000000 → a.length + r.length ≤ 100000000 → loop (Xf2 (a ++ Xra j r)) (j, (a.length : Int)) = some (.out (j + r.length)) := by
  intro r
  induction r with
  | nil =>
   intro a j hj1 hj2 hl
   refine Xck ?_
   unfold Xf2
   simp only [Xra, List.append_nil]
   rw [Xam (by omega)]
   simp
  | cons p r ih =>
   intro a j hj1 hj2 hl
   simp only [List.length_cons] at hj2 hl ⊢
   have hcl : ∀ (x : Int) (r : List Int), (a ++ x :: r).length = a.length + (r.length + 1) := fun x r => by simp
   refine lgo (y := (j + 1, ((a ++ [j]).length : Int))) ?_ ?_
   ·
    unfold Xf2
    simp only [Xra, Int.toNat_natCast, Xlg, hcl, Yoo]
    rw [Xaj (by omega), Xai (by omega), Xa8 (by simp), wk (e := j + 1) (by omega) (by omega), wk (by omega) (by omega)]
    simp
   ·
    have := ih (a ++ [j]) (j + 1) (by omega) (by omega) (by simp; omega)
    simp only [Xra]
    rw [List.append_assoc, List.singleton_append] at this
    rw [this]
    congr 2
    omega
 have := key l [] k h0 (by omega) (by simp; omega)
 simp only [List.length_nil, List.nil_append] at this
 rw [show ((k, 0) : Int × Int) = (k, ((0 : Nat) : Int)) from rfl, this]
 rfl
theorem Ye7 (s : Seq) (h1 : s.Cols.length ≤ 9223372036854775806) (h2 : s.Rows.length ≤ 9223372036854775806) : Xpb s s = some true := by
 unfold Xpb
 simp only [Xme _ h1, Xme _ h2, Xad, bne_self_eq_false, Xav, Bool.not_true]
theorem Yfb (s : Seq) (k : Int) (h0 : 0 < k) (h1 : k ≤ 100000000) (hc : s.Cols.length ≤ 100000000) (hr : s.Rows.length ≤ 100000000) : Xl1 s k = some (k + s.Cols.length + s.Rows.length, (⟨s.Level, s.Bits, Xra k s.Cols, Xra (k + s.Cols.length) s.Rows⟩ : Seq)) := by
 unfold Xl1
 rw [Xmh _ _ h0 (by omega) hc, Xad, Xmh _ _ (by omega) (by omega) hr, Xad]
theorem Ye9 (s : Seq) (c r : List Int) (k : Int) (h0 : 0 < k) (h1 : k ≤ 100000000) (hc : c.length ≤ 100000000) (hr : r.length ≤ 100000000) (ec : s.Cols = Xra k c) (er : s.Rows = Xra (k + c.length) r) : Xl0 s k = some (k + c.length + r.length) := by
 unfold Xl0
 rw [ec, Xmf _ _ h0 (by omega) hc, Xad, Xam (by omega), er, Xmf _ _ (by omega) (by omega) hr, Xad, Xam (by omega)]
theorem Ye6 (p : Par) : Xpa p p = some true := by
 unfold Xpa
 simp only [bne_self_eq_false, Xav, beq_self_eq_true, Bool.not_true]
theorem Xrt (p : Pic) : Xk0 p p = some true := by
 unfold Xk0
 simp only [bne_self_eq_false, Xav, beq_self_eq_true, Bool.not_true]
def Yxb (l : List Int) : Prop := ∀ x ∈ l, 0 ≤ x ∧ x ≤ 255
theorem Yvv (l : List Int) (h : Yxb l) : Xbr (strOfNums l) = l := by
 unfold Xbr
 rw [strOfNums_data, List.map_map]
 have : ∀ x ∈ l, ((fun b : UInt8 => (b.toNat : Int)) ∘ fun n : Int => UInt8.ofNat n.toNat) x = x := by
  intro x hx
  have := h x hx
  simp only [Function.comp_apply, UInt8.toNat_ofNat']
  omega
 rw [List.map_congr_left this, List.map_id']
theorem Ynn (l : List Int) (h : Yxb l) (i : Nat) (hi : i < l.length) : Xkn (strOfNums l) (i : Int) = l.getD i 0 := by
 unfold Xkn
 rw [dif_pos (by rw [Int.toNat_natCast, strOfNums_size]; exact hi)]
 have hx := h l[i] (List.getElem_mem hi)
 rw [Xce l i hi]
 show ((((l.map fun n => UInt8.ofNat n.toNat).toArray)[(i : Int).toNat]'(by simpa using hi)).toNat : Int) = _
 simp only [Int.toNat_natCast, List.getElem_toArray, List.getElem_map, UInt8.toNat_ofNat']
 omega
def Yuv : Nat → Int → List Int
 | 0, _ => []
 | w + 1, n => Yuv w (n / 2) ++ [48 + n % 2]
theorem Yqw : ∀ (w : Nat) (n : Int), (Yuv w n).length = w
 | 0, _ => rfl
 | w + 1, n => by rw [Yuv, List.length_append, Yqw w]; rfl
def Xos (l : List Int) : Prop := ∀ x ∈ l, x = 48 ∨ x = 49
theorem Yps {a b : List Int} (ha : Xos a) (hb : Xos b) : Xos (a ++ b) := fun x hx => (List.mem_append.1 hx).elim (ha x) (hb x)
theorem Xrd {l : List Int} (h : Xos l) : Yxb l := fun x hx => by rcases h x hx with e | e <;> omega
theorem Yu8 : Xos [] := fun x hx => by simp at hx
theorem Yqv : ∀ (w : Nat) (n : Int), Xos (Yuv w n)
 | 0, _ => Yu8
 | w + 1, n => Yps (Yqv w (n / 2)) (fun x hx => by rw [List.mem_singleton.1 hx]; omega)
theorem Yvg : ∀ (k : Nat) (n : Int) (s : List Int), 0 ≤ n → n ≤ 9223372036854775807 → k + s.length ≤ 100000 → loop Xip (n, (k : Int) - 1, List.replicate k 0 ++ s) = some (Yuv k n ++ s) := by
 intro k
 induction k with
 | zero =>
  intro n s h0 h1 hl
  refine Xck ?_
  unfold Xip
  simp only
  rw [Xam (by omega)]
  simp [Yuv]
 | succ k ih =>
  intro n s h0 h1 hl
  have e1 : List.replicate (k + 1) (0 : Int) ++ s = List.replicate k 0 ++ 0 :: s := by rw [List.replicate_succ', List.append_assoc]; rfl
  have e2 := Xy2 (List.replicate k (0 : Int)) 0 (48 + n % 2) s
  rw [List.length_replicate] at e2
  refine lgo (y := (n / 2, (k : Int) - 1, List.replicate k 0 ++ (48 + n % 2) :: s)) ?_ ?_
  ·
   unfold Xip
   have e3 : (((k + 1 : Nat) : Int) - 1).toNat = k := by omega
   simp only [e1, e3]
   rw [Xaj (by omega), Xai (by decide), Xai (by simp; omega), Xai (by simp), Xai (by decide), Xcd h0, Xbl h0, wk (e := 48 + n % 2) (by omega) (by omega), w8 (by omega) (by omega), e2, wk (by omega) (by omega), wk (by omega) (by omega)]
   rw [show ((k + 1 : Nat) : Int) - 1 - 1 = (k : Int) - 1 by omega]
  ·
   rw [ih (n / 2) ((48 + n % 2) :: s) (by omega) (by omega) (by simp; omega), Yuv, List.append_assoc]; rfl
theorem Yjx (n : Int) (w : Nat) (h0 : 0 ≤ n) (h1 : n ≤ 9223372036854775807) (hw : w ≤ 1000) : Xny n (w : Int) = some (strOfNums (Yuv w n)) := by
 unfold Xny
 rw [Xai (by omega), wk (by omega) (by omega), Int.toNat_natCast]
 have := Yvg w n [] h0 h1 (by simp; omega)
 rw [List.append_nil, List.append_nil] at this
 rw [this, Xad]
theorem Ygx (n : Nat) (x : Int) (h : n ≤ 1000000000) : Xl6 (n : Int) x = some (strOfNums (List.replicate n x)) := by
 unfold Xl6
 rw [Xai (by omega), Int.toNat_natCast]
 have key : ∀ (k a : Nat), k + a = n → loop (Xg4 (n : Int) x) ((a : Int), List.replicate a x ++ List.replicate k 0) = some (List.replicate n x) := by
  intro k
  induction k with
  | zero =>
   intro a ha
   refine Xck ?_
   unfold Xg4
   simp only
   rw [Xam (by omega)]
   simp; omega
  | succ k ih =>
   intro a ha
   have e2 := Xy2 (List.replicate a x) 0 x (List.replicate k 0)
   rw [List.length_replicate] at e2
   refine lgo (y := (((a + 1 : Nat) : Int), List.replicate (a + 1) x ++ List.replicate k 0)) ?_ (ih (a + 1) (by omega))
   unfold Xg4
   simp only [List.replicate_succ (n := k), Int.toNat_natCast]
   rw [Xaj (by omega), Xai (by simp; omega), Xai (by simp), e2, wk (by omega) (by omega), List.replicate_succ' (n := a), List.append_assoc]
   rfl
 have := key n 0 rfl
 rw [List.replicate_zero, List.nil_append] at this
 exact Xgk this
theorem Yu9 (x : Int) (h : x = 48 ∨ x = 49) : ((x != 48) && (x != 49)) = false := by rcases h with rfl | rfl <;> rfl
theorem Yri (l : List Int) (hl : Xos l) (hn : l.length ≤ 9223372036854775806) (f : Int → Option (Lp Int (Ou Unit Bool)))
  (h : ∀ i : Nat, i < l.length → f (i : Int) = sel (((l.getD i 0) != 48) && ((l.getD i 0) != 49)) (some (.done (.ret false))) (some (.go ((i + 1 : Nat) : Int)))) (h0 : f (l.length : Int) = some (.done (.out ()))) : loop f 0 = some (.out ()) :=
 Xno l.length (fun i hi => by rw [h i hi, Yu9 _ (by rw [Xce l i hi]; exact hl _ (List.getElem_mem hi)), Xav]) h0
theorem Yjz (l : List Int) (hl : Xos l) (hn : l.length ≤ 9223372036854775806) : Xlb (strOfNums l) = some true := by
 unfold Xlb
 rw [Yri l hl hn (Xc4 (strOfNums l)) (fun i hi => by
  unfold Xc4
  rw [strOfNums_size, Ynn l (Xrd hl) i hi, Xaj (by omega), Xai (by omega), Xai (by omega), Xd7, Xad, wk (by omega) (by omega)]; rfl) (by
  unfold Xc4; rw [strOfNums_size, Xam (by omega)])]
 rfl
theorem Ym1 (l : List Int) (hl : Xos l) (hn : l.length ≤ 400000) : Xhx (strOfNums l) = some true := by
 unfold Xhx
 rw [strOfNums_size, Xaj (by omega), Yjz l hl (by omega), Xad, Xad]
theorem Ylp (l : List Int) (hl : Xos l) (hn : l.length ≤ 400000) : Xja (strOfNums l) = some true := by
 unfold Xja
 rw [strOfNums_size, Xam (by omega), Yri l hl (by omega) (Xhh (strOfNums l)) (fun i hi => by
  unfold Xhh
  rw [strOfNums_size, Ynn l (Xrd hl) i hi, Xaj (by omega), Xai (by omega), Xai (by omega), Xd7, Xad, wk (by omega) (by omega)]; rfl) (by
  unfold Xhh; rw [strOfNums_size, Xam (by omega)])]
 rfl
def Xot (l : List Int) : Int := l.foldl (fun x b => 2 * x + b - 48) 0
theorem Yye (l : List Int) : ∀ x : Int, l.foldl (fun x b => 2 * x + b - 48) x = x * 2 ^ l.length + Xot l := by
 induction l with
 | nil => intro x; simp [Xot]
 | cons b l ih =>
  intro x
  unfold Xot
  rw [List.foldl_cons, List.foldl_cons, ih, ih (2 * 0 + b - 48), List.length_cons, Int.pow_succ]
  have e1 : (2 * x + b - 48) * 2 ^ l.length = 2 * (x * 2 ^ l.length) + (b - 48) * 2 ^ l.length := by
   rw [show 2 * x + b - 48 = 2 * x + (b - 48) by omega, Int.add_mul, Int.mul_assoc]
  have e2 : x * (2 ^ l.length * 2) = 2 * (x * 2 ^ l.length) := by rw [← Int.mul_assoc, Int.mul_comm]
  rw [e1, e2, show (2 : Int) * 0 + b - 48 = b - 48 by omega]
  omega
theorem Yqk (a b : List Int) : Xot (a ++ b) = Xot a * 2 ^ b.length + Xot b := by
 show (a ++ b).foldl _ 0 = _
 rw [List.foldl_append]
 exact Yye b (Xot a)
theorem Xpu {l : List Int} (h : Xos l) : 0 ≤ Xot l ∧ Xot l < 2 ^ l.length := by
 induction l with
 | nil => simp [Xot]
 | cons b l ih =>
  have h1 := ih (fun x hx => h x (by simp [hx]))
  have h2 := h b (by simp)
  rw [show b :: l = [b] ++ l from rfl, Yqk, List.length_append, Int.pow_add, show Xot [b] = b - 48 by simp [Xot]]
  have : (2 : Int) ^ [b].length = 2 := rfl
  rw [this]
  rcases h2 with rfl | rfl <;> omega
def Ye5 (k : Int) : Bool := k == 1 || (k == 5 || (k == 7 || k == 8))
theorem Yih (k : Int) : Xnf k = some (Ye5 k) := by
 unfold Xnf Ye5
 simp only [Yko, Xad]
theorem Yg1 (k : Int) : Xl7 k = some (Ye5 k) := by
 unfold Xl7 Ye5
 simp only [Yko, Xad]
theorem Yvx {p : Par} (h : Xuy p = true) : 0 ≤ p.Qp ∧ p.Qp ≤ 40 := by
 unfold Xuy at h; rw [Bool.and_eq_true, decide_eq_true_eq] at h; exact h.1
theorem Xut (l : List ByteArray) (hl : l.length ≤ 9223372036854775806) : Xih l l = some true := by
 unfold Xih
 rw [Xa8 (by simp), Xno l.length (f := Xe7 l l) (by
  intro i hi
  unfold Xe7
  rw [Xaj (by omega), Xai (by omega), Xai (by omega), Xa8 (by simp), wk (by omega) (by omega)]
  rfl) (by unfold Xe7; rw [Xam (by omega)])]
 rfl
noncomputable def Yty (k : Int) : List ByteArray → List ByteArray
 | [] => []
 | _ :: r => mT k :: Yty (k + 1) r
theorem Xuw (l : List ByteArray) (k : Int) (h0 : 0 < k) (h1 : k ≤ 1000000000) (hl : l.length ≤ 100000000) : Xf6 l k = some (k + l.length, Yty k l) := by
 unfold Xf6
 have key : ∀ (r a : List ByteArray) (j : Int), 0 < j → j + r.length ≤ 2000000000 → a.length + r.length ≤ 100000000 → loop Xd6 (j, (a.length : Int), a ++ r) = some (j + r.length, a ++ Yty j r) := by
  intro r
  induction r with
  | nil =>
   intro a j hj1 hj2 hl
   refine Xck ?_
   unfold Xd6
   simp only [List.append_nil]
   rw [Xam (by omega)]
   simp [Yty]
  | cons p r ih =>
   intro a j hj1 hj2 hl
   simp only [List.length_cons] at hj2 hl ⊢
   have hcl : ∀ x : ByteArray, (a ++ x :: r).length = a.length + (r.length + 1) := fun x => by simp
   refine lgo (y := (j + 1, ((a ++ [mT j]).length : Int), (a ++ [mT j]) ++ r)) ?_ ?_
   ·
    unfold Xd6
    simp only [Int.toNat_natCast, Xy2, hcl]
    rw [Xaj (by omega), Xmj _ hj1 (by omega), Xad, Xai (by omega), Xai (by omega), wk (e := j + 1) (by omega) (by omega), wk (by omega) (by omega)]
    simp
   ·
    rw [ih _ (j + 1) (by omega) (by omega) (by simp; omega)]
    simp only [Yty, List.append_assoc, List.singleton_append]
    congr 2
    omega
 have := key l [] k h0 (by omega) (by simp; omega)
 simp only [List.length_nil, List.nil_append] at this
 exact Xgk this
theorem Xtu (l : List Int) (hl : l.length ≤ 1048576) : Xk2 l = some l := by
 unfold Xk2
 rw [Xai (by omega), Int.toNat_natCast]
 have := Ynw l (fun p : Int => p) 0 (0 : Int) (f := Xik l) (by
  intro i o hi ho
  unfold Xik
  simp only
  rw [Xaj (by omega), Xai (by omega), Xai (by omega), Xai (by omega), wk (by omega) (by omega)]
  rfl) (by
  intro o; unfold Xik; simp only; rw [Xam (by omega)])
 rw [this, Xad, List.map_id']
theorem Yma (s : Seq) (h1 : s.Cols.length ≤ 1048576) (h2 : s.Rows.length ≤ 1048576) : Xpi s = some s := by
 unfold Xpi
 rw [Xtu _ h1, Xad, Xtu _ h2, Xad]
theorem Xts (l : List Int) (m : Int) (hl : l.length ≤ maxLen) (h0 : 0 ≤ m) (h1 : m ≤ 1048576) : Xk1 l m = some (if m < l.length then -1 else m - l.length) := by
 have hm : maxLen = 9223372036854775807 := rfl
 unfold Xk1
 rw [wk (by omega) (by omega), Yi2]
 by_cases h : m < l.length
 ·
  rw [if_pos h, if_pos (by omega)]
 ·
  rw [if_neg h, if_neg (by omega)]
theorem Yl7 (s : Seq) (m : Int) (h1 : s.Cols.length ≤ maxLen) (h2 : s.Rows.length ≤ maxLen) (h0 : 0 ≤ m) (hm : m ≤ 1048576) : ∃ t, Xpg s m = some t ∧ t ≤ m ∧ -1 ≤ t ∧ (0 ≤ t → s.Cols.length ≤ 1048576 ∧ s.Rows.length ≤ 1048576) := by
 unfold Xpg
 rw [Xts _ m h1 h0 hm, Xad]
 by_cases e1 : m < s.Cols.length
 ·
  rw [if_pos e1, Xaj (by omega)]; exact ⟨_, rfl, by omega, by omega, by omega⟩
 ·
  rw [if_neg e1, Xam (by omega), Xts _ _ h2 (by omega) (by omega), Xad]
  by_cases e2 : m - s.Cols.length < s.Rows.length
  ·
   rw [if_pos e2, Xaj (by omega)]; exact ⟨_, rfl, by omega, by omega, by omega⟩
  ·
   rw [if_neg e2, Xam (by omega)]; exact ⟨_, rfl, by omega, by omega, fun _ => by omega⟩
theorem Xwk (p : Pic) (m : Int) (hl : p.Dots.size ≤ maxLen) (h0 : 0 ≤ m) (h1 : m ≤ 1048576) : Xm7 p m = some (if m < p.Dots.size then -1 else m - p.Dots.size) := by
 have hm : maxLen = 9223372036854775807 := rfl
 unfold Xm7
 rw [wk (by omega) (by omega), Yi2]
 by_cases h : m < p.Dots.size
 ·
  rw [if_pos h, if_pos (by omega)]
 ·
  rw [if_neg h, if_neg (by omega)]
def Yyg (x : Int) : Bool := decide (-5000 ≤ x ∧ x ≤ 5000)
def nz : List Int → Nat
 | [] => 0
 | x :: r => if x = 0 then nz r else nz r + 1
def Ysb (l : List Int) : Bool := decide (l.length = 64) && l.all Yyg
theorem Yk5 (p : Int → Bool) (l : List Int) (f : Int → Option (Lp Int (Ou Unit Bool))) (h : ∀ i : Nat, i < l.length → f (i : Int) = sel (!(p (l.getD i 0))) (some (.done (.ret false))) (some (.go ((i + 1 : Nat) : Int)))) (h0 : f (l.length : Int) = some (.done (.out ()))) :
  loop f 0 = some (if l.all p = true then .out () else .ret false) := by
 have key : ∀ (r a : List Int), l = a ++ r → loop f (a.length : Int) = some (if r.all p = true then .out () else .ret false) := by
  intro r
  induction r with
  | nil => intro a ha; rw [List.append_nil] at ha; rw [← ha, Xb7 h0]; rfl
  | cons x r ih =>
   intro a ha
   have hlen : a.length < l.length := by rw [ha]; simp
   have hx : l.getD a.length 0 = x := by rw [ha]; exact Xlg a x _ r
   have hs := h a.length hlen
   rw [hx] at hs
   cases e : p x with
   | true =>
    rw [e] at hs
    have := ih (a ++ [x]) (by rw [ha]; simp)
    rw [List.length_append, List.length_singleton] at this
    rw [Xnm hs, this, List.all_cons, e, Bool.true_and]
   | false => rw [e] at hs; rw [Xb7 hs, List.all_cons, e, Bool.false_and]; rfl
 exact key l [] rfl
theorem Yj0 (l : List Int) : Xdl l 64 5000 = some (Ysb l) := by
 unfold Xdl Ysb
 by_cases h : l.length = 64
 ·
  rw [Xa8 (by simp only [bne_eq_false_iff_eq]; omega), Yk5 Yyg l (Xdy l 64 5000) (by
   intro i hi
   unfold Xdy
   rw [Xaj (by omega), Xai (by omega), wk (e := 0 - 5000) (by omega) (by omega), Xak, Xad, wk (by omega) (by omega), Int.toNat_natCast]
   rfl) (by unfold Xdy; rw [Xam (by omega)]), Xad, decide_eq_true h, Bool.true_and]
  cases l.all Yyg <;> rfl
 ·
  rw [Xb2 (by simp only [bne_iff_ne, ne_eq]; omega), decide_eq_false h, Bool.false_and]
theorem Xmw (l : List Int) (n lo hi : Int) (hl : l.length ≤ 9223372036854775806) : Xd1 l n lo hi = some (l.all (fun x => decide (lo ≤ x ∧ x ≤ hi)) && ((l.length : Int) == n)) := by
 unfold Xd1
 rw [Yk5 (fun x => decide (lo ≤ x ∧ x ≤ hi)) l (Xjx l lo hi) (by
   intro i hi
   unfold Xjx
   rw [Xaj (by omega), Xai (by omega), Xao, Xad, wk (by omega) (by omega), Int.toNat_natCast]
   rfl) (by unfold Xjx; rw [Xam (by omega)]), Xad]
 cases l.all (fun x => decide (lo ≤ x ∧ x ≤ hi)) <;> rfl
theorem Xo4 (l : List Int) (hl : l.length ≤ 9223372036854775806) : Xeu l = some (Ysb l) := by
 unfold Xeu Ysb
 rw [Xmw l _ _ _ hl, Xad]
 show some (l.all Yyg && ((l.length : Int) == 64)) = _
 have : ((l.length : Int) == 64) = decide (l.length = 64) := by rw [Bool.eq_iff_iff]; simp only [beq_iff_eq, decide_eq_true_eq]; omega
 rw [this, Bool.and_comm]
theorem Ysc {l : List Int} (h : Ysb l = true) : l.length = 64 ∧ l.all Yyg = true := by
 unfold Ysb at h; rw [Bool.and_eq_true, decide_eq_true_eq] at h; exact h
def Xjk (c : Xkj) : Bool := decide (0 ≤ c.Qp ∧ c.Qp ≤ 40) && !(c.Large && c.Exact)
theorem Xew (c : Xkj) : Xgy c = some (Xjk c) := by
 unfold Xgy Xjk
 rw [Xak, Xad, Ymr, Xd7, Xad]
 cases c.Large <;> cases c.Exact <;> rfl
theorem Xdt (c : Xkj) : Xgq c = some (Xjk c) := by
 unfold Xgq Xjk
 rw [Xao, Xad, Ymr, Xd7, Xad]
 cases c.Large <;> cases c.Exact <;> rfl
def Xsc (s : Xay) : Bool :=
 if s.Kind = 0 then decide (s.Mode = 0 ∧ s.Dx = 0 ∧ s.Dy = 0 ∧ s.Levels.length = 0)
 else if s.Kind = 1 then decide (s.Mode = 0) && (decide (-16 ≤ s.Dx ∧ s.Dx ≤ 16) && (decide (-16 ≤ s.Dy ∧ s.Dy ≤ 16) && Ysb s.Levels))
 else if s.Kind = 2 then decide (0 ≤ s.Mode ∧ s.Mode ≤ 3) && (decide (s.Dx = 0) && (decide (s.Dy = 0) && Ysb s.Levels))
 else false
theorem Yk9 (a b : Int) : (a == b) = decide (a = b) := by rw [Bool.eq_iff_iff]; simp
theorem Xiu (s : Xay) : Xds s = some (Xsc s) := by
 unfold Xds Xsc
 simp only [Xak, Yj0, Xad, Xd7, Yk9]
 simp only [Yi2]
 by_cases h0 : s.Kind = 0
 ·
  rw [if_pos h0, if_pos h0]; congr 1; rw [Bool.eq_iff_iff]; simp
 ·
  rw [if_neg h0, if_neg h0]
  by_cases h1 : s.Kind = 1
  ·
   rw [if_pos h1, if_pos h1]
  ·
   rw [if_neg h1, if_neg h1]
   by_cases h2 : s.Kind = 2
   ·
    rw [decide_eq_true h2, Bool.true_and, if_pos h2]
   ·
    rw [decide_eq_false h2, Bool.false_and, if_neg h2]
theorem Xfz (s : Xay) (hl : s.Levels.length ≤ 9223372036854775806) : Xfs s = some (Xsc s) := by
 unfold Xfs Xsc
 simp only [Xao, Xo4 _ hl, Xad, Xd7, Yk9]
 simp only [Yi2]
 by_cases h0 : s.Kind = 0
 ·
  rw [if_pos h0, if_pos h0]; congr 1; rw [Bool.eq_iff_iff]; simp
 ·
  rw [if_neg h0, if_neg h0]
  by_cases h1 : s.Kind = 1
  ·
   rw [if_pos h1, if_pos h1]
  ·
   rw [if_neg h1, if_neg h1]
   by_cases h2 : s.Kind = 2
   ·
    rw [decide_eq_true h2, Bool.true_and, if_pos h2]
   ·
    rw [decide_eq_false h2, Bool.false_and, if_neg h2]
def Xmo (s : Xay) (c : Xkj) : Bool := !c.Key || s.Kind == 2
theorem Yo9 {s : Xay} (h : Xsc s = true) : 0 ≤ s.Kind ∧ s.Kind ≤ 2 := by
 unfold Xsc at h
 repeat' split at h
 all_goals first | omega | simp at h
theorem Yro {s : Xay} (h : Xsc s = true) (h1 : s.Kind = 1) : (-16 ≤ s.Dx ∧ s.Dx ≤ 16) ∧ (-16 ≤ s.Dy ∧ s.Dy ≤ 16) ∧ Ysb s.Levels = true := by
 unfold Xsc at h
 rw [if_neg (by omega), if_pos h1] at h
 simp only [Bool.and_eq_true, decide_eq_true_eq] at h
 exact ⟨h.2.1, h.2.2.1, h.2.2.2⟩
theorem Yv6 {s : Xay} (h : Xsc s = true) (h1 : s.Kind = 2) : (0 ≤ s.Mode ∧ s.Mode ≤ 3) ∧ Ysb s.Levels = true := by
 unfold Xsc at h
 rw [if_neg (by omega), if_neg (by omega), if_pos h1] at h
 simp only [Bool.and_eq_true, decide_eq_true_eq] at h
 exact ⟨h.1, h.2.2.2⟩
def Yuk (l : List Xay) (c : Xkj) : Bool := l.all fun s => Xsc s && (Xjk c && Xmo s c)
theorem Xpw (b : ByteArray) (i : Int) : 0 ≤ Xkn b i ∧ Xkn b i ≤ 255 := by
 unfold Xkn
 split
 ·
  rename_i h
  have := (b[i.toNat]'h).toNat_lt
  omega
 ·
  omega
theorem Xbk {p : Pic} (h : Xb8 p = true) : (1 ≤ p.Wide ∧ p.Wide ≤ 256) ∧ (1 ≤ p.High ∧ p.High ≤ 256) ∧ (p.Dots.size : Int) = p.Wide * p.High := by
 unfold Xb8 at h
 simp only [Bool.and_eq_true, decide_eq_true_eq, beq_iff_eq] at h
 exact ⟨h.1, h.2.1, h.2.2⟩
theorem Xws {p : Pic} (h1 : 1 ≤ p.Wide ∧ p.Wide ≤ 256) (h2 : 1 ≤ p.High ∧ p.High ≤ 256) (h3 : (p.Dots.size : Int) = p.Wide * p.High) : Xb8 p = true := by
 unfold Xb8
 simp only [Bool.and_eq_true, decide_eq_true_eq, beq_iff_eq]
 exact ⟨h1, h2, h3⟩
def Ylf (p : Pic) (x y : Int) : Int := Xkn p.Dots (Xc7 y 0 (p.High - 1) * p.Wide + Xc7 x 0 (p.Wide - 1))
theorem Xpx (p : Pic) (x y : Int) : 0 ≤ Ylf p x y ∧ Ylf p x y ≤ 255 := Xpw _ _
theorem Ynt {p : Pic} (ok : Xb8 p = true) (x y : Int) : 0 ≤ Xc7 y 0 (p.High - 1) * p.Wide + Xc7 x 0 (p.Wide - 1) ∧ Xc7 y 0 (p.High - 1) * p.Wide + Xc7 x 0 (p.Wide - 1) < p.Dots.size ∧ 0 ≤ Xc7 y 0 (p.High - 1) * p.Wide ∧ Xc7 y 0 (p.High - 1) * p.Wide ≤ 65536 := by
 obtain ⟨h1, h2, h3⟩ := Xbk ok
 have b1 := Xm3 (n := y) (a := 0) (b := p.High - 1) (by omega)
 have b2 := Xm3 (n := x) (a := 0) (b := p.Wide - 1) (by omega)
 have m1 := Int.mul_nonneg b1.1 (show 0 ≤ p.Wide by omega)
 have m2 := Int.mul_le_mul_of_nonneg_right b1.2 (show 0 ≤ p.Wide by omega)
 have m3 : (p.High - 1) * p.Wide = p.Wide * p.High - p.Wide := by rw [Int.sub_mul, Int.one_mul, Int.mul_comm]
 have m4 := (Xd0 h1 h2).2
 omega
theorem Yeo {p : Pic} (ok : Xb8 p = true) (x y : Int) : Xem p x y = some (Ylf p x y) := by
 obtain ⟨h1, h2, h3⟩ := Xbk ok
 unfold Xem Ylf
 rw [Xjn, Xad, Xjn, Xad, wk (e := p.High - 1) (by omega) (by omega), wk (e := p.Wide - 1) (by omega) (by omega)]
 obtain ⟨p1, p2, p3, p4⟩ := Ynt ok x y
 have b2 := Xm3 (n := x) (a := 0) (b := p.Wide - 1) (by omega)
 have br := Xpw p.Dots (Xc7 y 0 (p.High - 1) * p.Wide + Xc7 x 0 (p.Wide - 1))
 rw [wk (e := Xc7 y 0 (p.High - 1) * p.Wide) (by omega) (by omega), wk (e := Xc7 y 0 (p.High - 1) * p.Wide + Xc7 x 0 (p.Wide - 1)) (by omega) (by omega), Xai ⟨p1, p2⟩, wk (by omega) (by omega)]
theorem Xj7 {p : Pic} (ok : Xb8 p = true) (x y : Int) : Xfa p x y = some (Ylf p x y) := by
 obtain ⟨h1, h2, h3⟩ := Xbk ok
 unfold Xfa Ylf
 rw [Xfw, Xad, ok, Bool.not_true, Xav, Xe9, Xad, Xe9, Xad, wk (e := p.High - 1) (by omega) (by omega), wk (e := p.Wide - 1) (by omega) (by omega)]
 obtain ⟨p1, p2, p3, p4⟩ := Ynt ok x y
 have b2 := Xm3 (n := x) (a := 0) (b := p.Wide - 1) (by omega)
 have br := Xpw p.Dots (Xc7 y 0 (p.High - 1) * p.Wide + Xc7 x 0 (p.Wide - 1))
 rw [wk (e := Xc7 y 0 (p.High - 1) * p.Wide) (by omega) (by omega), wk (e := Xc7 y 0 (p.High - 1) * p.Wide + Xc7 x 0 (p.Wide - 1)) (by omega) (by omega), Xai ⟨p1, p2⟩, wk (by omega) (by omega)]
def Yr3 (p : Pic) (x y : Int) (i : Nat) : Int := Ylf p (x + ((i % 8 : Nat) : Int)) (y + ((i / 8 : Nat) : Int))
def Yna (p : Pic) (x y : Int) (n : Nat) : List Int := (List.range n).map (Yr3 p x y)
theorem Ynm (p : Pic) (x y : Int) (n : Nat) : Yna p x y (n + 1) = Yna p x y n ++ [Yr3 p x y n] := by simp [Yna, List.range_succ]
theorem Xub (p : Pic) (x y : Int) (n : Nat) : (Yna p x y n).length = n := by simp [Yna]
def Yvd (x : Int) : Bool := decide (0 ≤ x ∧ x ≤ 255)
def Xm9 (l : List Int) : Bool := decide (l.length = 64) && l.all Yvd
theorem Xre {l : List Int} (h : Xm9 l = true) : l.length = 64 ∧ ∀ i : Nat, i < 64 → 0 ≤ l.getD i 0 ∧ l.getD i 0 ≤ 255 := by
 simp only [Xm9, Bool.and_eq_true, decide_eq_true_eq] at h
 refine ⟨h.1, fun i hi => ?_⟩
 have := List.all_eq_true.1 h.2 (l.getD i 0) (by rw [Xce l i (by omega)]; exact List.getElem_mem _)
 simpa [Yvd] using this
theorem Ydh (p : Pic) (x y : Int) : Xm9 (Yna p x y 64) = true := by
 simp only [Xm9, Xub, decide_true, Bool.true_and, List.all_eq_true]
 intro z hz
 obtain ⟨i, _, rfl⟩ := List.mem_map.1 hz
 simp only [Yvd, decide_eq_true_eq]
 exact Xpx _ _ _
theorem Yf1 {p : Pic} (ok : Xb8 p = true) (x y : Int) (hx : -1000 ≤ x ∧ x ≤ 1000) (hy : -1000 ≤ y ∧ y ≤ 1000) : Xl4 p x y = some (Yna p x y 64) := by
 have hm : maxLen = 9223372036854775807 := rfl
 unfold Xl4
 rw [Xfw, Xad, ok, Xaw, Xak, Xad, Xaj (by omega), Xak, Xad, Xad, decide_eq_true (by omega), Bool.not_true, Xav]
 have key : ∀ i : Nat, i ≤ 64 → loop (Xgx p x y) ((i : Int), Yna p x y i) = some (Yna p x y 64) := by
  refine Xgo _ ?_ ?_
  ·
   exact Xck (by unfold Xgx; rw [Xam (by simp)])
  ·
   intro i hi ih
   refine lgo (y := (((i + 1 : Nat) : Int), Yna p x y (i + 1))) ?_ ih
   unfold Xgx
   simp only
   rw [Xaj (by omega), Xai (by omega), Xai (by omega), Xcd (by omega), Xbl (by omega), wk (e := (i : Int) / 8) (by omega) (by omega), wk (e := x + (i : Int) % 8) (by omega) (by omega), wk (e := y + (i : Int) / 8) (by omega) (by omega), Xj7 ok, Xad, Xai (by rw [Xub]; simp only [List.length_singleton]; omega), wk (e := (i : Int) + 1) (by omega) (by omega)]
   have e2 : Ylf p (x + (i : Int) % 8) (y + (i : Int) / 8) = Yr3 p x y i := by unfold Yr3; congr 1
   rw [e2, ← Ynm]
   rfl
 have := key 0 (by omega)
 exact (Xgk this).trans rfl
theorem Xv6 {p : Pic} (ok : Xb8 p = true) (x y : Int) (hx : -1000 ≤ x ∧ x ≤ 1000) (hy : -1000 ≤ y ∧ y ≤ 1000) : Xgc p x y = some (Yna p x y 64) := by
 have hm : maxLen = 9223372036854775807 := rfl
 unfold Xgc
 rw [Xai (by omega)]
 have key : ∀ r : Nat, r ≤ 8 → loop (Xek p x y) ((r : Int), Yna p x y (8 * r)) = some (Yna p x y 64) := by
  refine Xgo _ ?_ ?_
  ·
   exact Xck (by unfold Xek; rw [Xam (by simp)])
  ·
   intro r hr ih
   refine lgo (y := (((r + 1 : Nat) : Int), Yna p x y (8 * (r + 1)))) ?_ ih
   unfold Xek
   simp only
   have inner : ∀ c : Nat, c ≤ 8 → loop (Xel p x y ((r : Int), Yna p x y (8 * r))) ((c : Int), Yna p x y (8 * r + c)) = some (Yna p x y (8 * (r + 1))) := by
    refine Xgo _ ?_ ?_
    ·
     exact Xck (by unfold Xel; rw [Xam (by simp)]; rfl)
    ·
     intro c hc ih2
     refine lgo (y := (((c + 1 : Nat) : Int), Yna p x y (8 * r + (c + 1)))) ?_ ih2
     unfold Xel
     simp only
     rw [Xaj (by omega), wk (e := x + (c : Int)) (by omega) (by omega), wk (e := y + (r : Int)) (by omega) (by omega), Yeo ok, Xad, Xai (by rw [Xub]; simp only [List.length_singleton]; omega), wk (e := (c : Int) + 1) (by omega) (by omega)]
     have e2 : Ylf p (x + (c : Int)) (y + (r : Int)) = Yr3 p x y (8 * r + c) := by
      unfold Yr3
      rw [show (8 * r + c) % 8 = c by omega, show (8 * r + c) / 8 = r by omega]
     rw [e2, ← Ynm]
     rfl
   have i0 := inner 0 (by omega)
   rw [Xaj (by omega)]
   refine (Xgk i0).trans ?_
   rw [wk (e := (r : Int) + 1) (by omega) (by omega)]
   rfl
 have := key 0 (by omega)
 exact (Xgk this).trans rfl
theorem Yem (l : List Int) (hl : l.length ≤ 9223372036854775806) : Xd1 l 64 0 255 = some (Xm9 l) := by
 rw [Xmw l _ _ _ hl]
 have : ((l.length : Int) == 64) = decide (l.length = 64) := by rw [Bool.eq_iff_iff]; simp only [beq_iff_eq, decide_eq_true_eq]; omega
 rw [this, Bool.and_comm]
 rfl
def Xlq (p : Pic) (x y : Int) : Bool := decide (0 ≤ x ∧ x ≤ p.Wide - 8 ∧ 0 ≤ y ∧ y ≤ p.High - 8)
theorem Ya3 {p : Pic} (ok : Xb8 p = true) (x y : Int) (hx : x.tmod 8 = 0) (hy : y.tmod 8 = 0) (h : Xlq p x y = true) : Xcx p x y = some true := by
 obtain ⟨k1, k2, k3⟩ := Xbk ok
 unfold Xlq at h
 rw [decide_eq_true_eq] at h
 unfold Xcx
 rw [Xai (by omega), hx, Xai (by omega), hy, wk (e := p.Wide - 8) (by omega) (by omega), wk (e := p.High - 8) (by omega) (by omega), Xao, Xad, Xao, Xad, decide_eq_true (by omega), decide_eq_true (by omega)]
 rfl
theorem Xss (s : ByteArray) : strOfNums (Xbr s) = s := by
 apply ByteArray.ext
 apply Array.ext'
 simp only [strOfNums, Xbr, List.map_map]
 conv => rhs; rw [← List.map_id s.data.toList]
 refine List.map_congr_left fun c _ => ?_
 simp
theorem Ykt {a b : ByteArray} : a.toList = b.toList ↔ a = b := by
 constructor
 ·
  intro h
  rw [ByteArray.toList_eq, ByteArray.toList_eq] at h
  exact ByteArray.ext (Array.ext' h)
 ·
  intro h; rw [h]
def inB (B : Int) (l : List Int) : Prop := ∀ x ∈ l, -B ≤ x ∧ x ≤ B
theorem Ylz {B C : Int} {l : List Int} (h : inB B l) (hc : B ≤ C) : inB C l := fun x hx => by have := h x hx; omega
theorem Xyi {B : Int} {a b : List Int} (ha : inB B a) (hb : inB B b) : inB B (a ++ b) := fun x hx => (List.mem_append.1 hx).elim (ha x) (hb x)
theorem Ypy (B : Int) : inB B [] := fun x hx => by simp at hx
theorem Ytk {B x : Int} (h : -B ≤ x ∧ x ≤ B) : inB B [x] := fun y hy => by rw [List.mem_singleton.1 hy]; exact h
theorem Yp0 {B : Int} {l : List Int} (h : inB B l) (i : Nat) {y : Int} (hy : -B ≤ y ∧ y ≤ B) : inB B (l.set i y) := fun x hx => by
 rcases List.mem_or_eq_of_mem_set hx with hx | hx
 ·
  exact h x hx
 ·
  rw [hx]; exact hy
theorem Ypz (n : Nat) {B : Int} (h : 0 ≤ B) : inB B (List.replicate n 0) := fun x hx => by rw [List.eq_of_mem_replicate hx]; omega
theorem Xrm {B : Int} {l : List Int} (h : inB B l) {i : Nat} (hi : i < l.length) : -B ≤ l.getD i 0 ∧ l.getD i 0 ≤ B := h _ (by rw [Xce l i hi]; exact List.getElem_mem _)
theorem Yq0 {B : Int} {l : List Int} (h : inB B l) (n : Nat) : inB B (l.take n) := fun x hx => h x (List.mem_of_mem_take hx)
theorem Yqz {B : Int} {l : List Int} (h : inB B l) (n : Nat) : inB B (l.drop n) := fun x hx => h x (List.mem_of_mem_drop hx)
theorem Xe2 {S : Type} {f : Int × S → Option (Lp (Int × S) S)} (n : Nat) (I : Nat → S → Prop) (hs : ∀ (i : Nat) (l : S), i < n → I i l → ∃ l', f ((i : Int), l) = some (.go (((i + 1 : Nat) : Int), l')) ∧ I (i + 1) l') (he : ∀ l, f ((n : Int), l) = some (.done l)) (l0 : S) (h0 : I 0 l0) : ∃ o, loop f (0, l0) = some o ∧ I n o := by
 have key : ∀ i : Nat, i ≤ n → ∀ l, I i l → ∃ o, loop f ((i : Int), l) = some o ∧ I n o := by
  refine Xgo _ ?_ ?_
  ·
   intro l h; exact ⟨l, Xck (he l), h⟩
  ·
   intro i hi ih l h
   obtain ⟨l', e, h'⟩ := hs i l hi h
   obtain ⟨o, e2, h2⟩ := ih l' h'
   exact ⟨o, lgo e e2, h2⟩
 exact key 0 (by omega) l0 h0
theorem Xn2 {S : Type} {f : S × Int → Option (Lp (S × Int) S)} (n : Nat) (I : Nat → S → Prop) (hs : ∀ (i : Nat) (l : S), i < n → I i l → ∃ l', f (l, (i : Int)) = some (.go (l', ((i + 1 : Nat) : Int))) ∧ I (i + 1) l') (he : ∀ l, f (l, (n : Int)) = some (.done l)) (l0 : S) (h0 : I 0 l0) : ∃ o, loop f (l0, 0) = some o ∧ I n o := by
 have key : ∀ i : Nat, i ≤ n → ∀ l, I i l → ∃ o, loop f (l, (i : Int)) = some o ∧ I n o := by
  refine Xgo _ ?_ ?_
  ·
   intro l h; exact ⟨l, Xck (he l), h⟩
  ·
   intro i hi ih l h
   obtain ⟨l', e, h'⟩ := hs i l hi h
   obtain ⟨o, e2, h2⟩ := ih l' h'
   exact ⟨o, lgo e e2, h2⟩
 exact key 0 (by omega) l0 h0
theorem Xfq (l : List Int) (i j : Nat) (y : Int) (hi : i < l.length) : (l.set i y).getD j 0 = if i = j then y else l.getD j 0 := by
 rw [List.getD_eq_getElem?_getD, List.getElem?_set, List.getD_eq_getElem?_getD]
 by_cases h : i = j
 ·
  subst h; rw [if_pos rfl, if_pos rfl, if_pos hi]; rfl
 ·
  rw [if_neg h, if_neg h]
theorem Xsn {f : Int × List Int → Option (Lp (Int × List Int) (List Int))} (n : Nat) (P Q : Int → Prop) (hs : ∀ (i : Nat) (l : List Int), i < n → l.length = n → P (l.getD i 0) → ∃ y, f ((i : Int), l) = some (.go (((i + 1 : Nat) : Int), l.set i y)) ∧ Q y) (he : ∀ l, f ((n : Int), l) = some (.done l)) (l0 : List Int) (h0 : l0.length = n) (hb : ∀ x ∈ l0, P x) : ∃ o, loop f (0, l0) = some o ∧ o.length = n ∧ ∀ x ∈ o, Q x := by
 obtain ⟨o, e, h1, h2, _⟩ := Xe2 (f := f) n (fun i l => l.length = n ∧ (∀ j, j < i → Q (l.getD j 0)) ∧ ∀ j, i ≤ j → j < n → P (l.getD j 0)) (by
  intro i l hi ⟨g1, g2, g3⟩
  obtain ⟨y, e, hy⟩ := hs i l hi g1 (g3 i (Nat.le_refl _) hi)
  refine ⟨_, e, by rw [List.length_set]; exact g1, fun j hj => ?_, fun j hj hj2 => ?_⟩
  ·
   rw [Xfq l i j y (by omega)]
   by_cases h : i = j
   ·
    rw [if_pos h]; exact hy
   ·
    rw [if_neg h]; exact g2 j (by omega)
  ·
   rw [Xfq l i j y (by omega), if_neg (by omega)]; exact g3 j (by omega) hj2) he l0 ⟨h0, fun j hj => by omega, fun j _ hj => hb _ (by rw [Xce l0 j (by omega)]; exact List.getElem_mem _)⟩
 refine ⟨o, e, h1, fun x hx => ?_⟩
 obtain ⟨j, hj, rfl⟩ := List.getElem_of_mem hx
 have := h2 j (by omega)
 rwa [Xce o j hj] at this
theorem Xjc (l : List Int) (n B : Int) (hn : (l.length : Int) = n) (hn2 : n ≤ 1000000) (hB : 0 ≤ B ∧ B ≤ 100000000) (h : inB B l) : Xdl l n B = some true := by
 unfold Xdl
 rw [Xa8 (by simp only [bne_eq_false_iff_eq]; exact hn), Xno l.length (f := Xdy l n B) (by
  intro i hi
  have := Xrm h hi
  unfold Xdy
  rw [Xaj (by omega), Xai (by omega), wk (e := 0 - B) (by omega) (by omega), Xak, Xad, Int.toNat_natCast, decide_eq_true (by omega), Bool.not_true, Xav, wk (by omega) (by omega)]
  rfl) (by unfold Xdy; rw [Xam (by omega)]), Xad]
def Xwx (n i : Int) (v17 : Int × Int) : Option (Lp (Int × Int) (Ou Unit Int)) :=
 sel (decide (v17.2 ≤ (Xaa .i64 ((Xaa .i64 (2 * n)) - 2)))) (
 bnd (it (Xnv n i v17) 20 (v17.1, 0)) fun o47 => match o47 with
 | .out v43 => (
 some (.go (v43, Xaa .i64 (v17.2 + 1))))
 | .ret r => some (.done (.ret r))) (
 some (.done (.out ())))
theorem Yo5 {n i : Int} {v : Int × Int} {x : Lp (Int × Int) (Ou Unit Int)} (h : Xwx n i v = some x) : Xj9 n i v = some x := by
 unfold Xwx at h
 unfold Xj9
 rcases Xqf h with ⟨hb, h⟩ | ⟨hb, h⟩
 ·
  rw [hb, Xaw]
  obtain ⟨a, h1, h2⟩ := Xa6 h
  rw [Xh4.2 ⟨20, h1⟩, Xad]
  exact h2
 ·
  rw [hb, Xav]; exact h
theorem Yvm {V O : Type} {f g : V → Option (Lp V O)} (hf : ∀ v y, f v = some y → g v = some y) {o : O} : ∀ (k : Nat) (v : V), it f k v = some o → it g k v = some o
 | 0, v, h => by cases h
 | k + 1, v, h => by
  rw [it] at h ⊢
  cases e : f v with
  | none => rw [e] at h; cases h
  | some s =>
   rw [e] at h
   rw [hf v s e]
   cases s with
   | go y => exact Yvm hf k y h
   | done o' => exact h
def Xgv (n i : Int) : Int := match it (Xwx n i) 20 (0, 0) with | some (.ret q) => q | _ => -1
theorem Yv2 : ∀ i : Fin 16, (0 ≤ Xgv 4 (i.val : Int) ∧ Xgv 4 (i.val : Int) < 16) := by decide +kernel
theorem Yv3 : ∀ i : Fin 64, (0 ≤ Xgv 8 (i.val : Int) ∧ Xgv 8 (i.val : Int) < 64) := by decide +kernel
theorem Xoc (n : Int) (hn : n = 4 ∨ n = 8) (i : Nat) (hi : (i : Int) < n * n) : 0 ≤ Xgv n i ∧ Xgv n i < n * n := by
 rcases hn with rfl | rfl
 ·
  exact Yv2 ⟨i, by omega⟩
 ·
  exact Yv3 ⟨i, by omega⟩
theorem Xor (n : Int) (hn : n = 4 ∨ n = 8) (i : Nat) (hi : (i : Int) < n * n) : Xnu n i = some (Xgv n i) := by
 have hp := Xoc n hn i hi
 unfold Xnu
 have hw : Xaa .i64 (n * n) = n * n := by rcases hn with rfl | rfl <;> exact wk (by omega) (by omega)
 have hc : (sel (n != 4) (sel (n != 8) (some true) (sel (decide ((i : Int) < 0)) (some true) (some (decide ((i : Int) ≥ (Xaa .i64 (n * n))))))) (sel (decide ((i : Int) < 0)) (some true) (some (decide ((i : Int) ≥ (Xaa .i64 (n * n))))))) = some false := by
  rw [hw, Xam (show ¬ (i : Int) < 0 by omega), decide_eq_false (show ¬ (i : Int) ≥ n * n by omega)]
  rcases hn with rfl | rfl <;> rfl
 rw [hc, Xad, Xav]
 unfold Xgv at hp ⊢
 cases e : it (Xwx n i) 20 (0, 0) with
 | none => rw [e] at hp; simp only at hp; omega
 | some s =>
  rw [e] at hp
  have h := Yvm (fun v y => Yo5 (n := n) (i := i)) 20 _ e
  rw [Xh4.2 ⟨20, h⟩, Xad]
  cases s with
  | out u => simp only at hp; omega
  | ret q => rfl
theorem Xfd (n : Int) (hn : n = 4 ∨ n = 8) (l : List Int) (B : Int) (hB : 0 ≤ B) (hl : (l.length : Int) = n * n) (hb : inB B l) : ∃ o, Xc3 n l = some (o, true) ∧ o.length = l.length ∧ inB B o := by
 have hm : maxLen = 9223372036854775807 := rfl
 have hw : Xaa .i64 (n * n) = n * n := by rcases hn with rfl | rfl <;> exact wk (by omega) (by omega)
 have hl2 : l.length ≤ 64 := by rcases hn with rfl | rfl <;> omega
 unfold Xc3
 have hc : (sel (n != 4) (sel (n != 8) (some true) (some ((l.length : Int) != (Xaa .i64 (n * n))))) (some ((l.length : Int) != (Xaa .i64 (n * n))))) = some false := by
  rw [hw, hl, bne_self_eq_false]
  rcases hn with rfl | rfl <;> rfl
 rw [hc, Xad, Xav, Xai (by omega), Int.toNat_natCast]
 obtain ⟨o, e, h1, h2⟩ := Xe2 (f := Xb9 n l) l.length (fun i s => s.length = l.length ∧ inB B s) (by
  intro i s hi ⟨g1, g2⟩
  have hp := Xoc n hn i (by omega)
  have ha := Xrm hb hi
  unfold Xb9
  simp only
  rw [hw, Xaj (by omega), Xor n hn i (by omega), Xad, Xai (by omega), Xai (by omega), Xai (by omega), wk (by omega) (by omega), Int.toNat_natCast]
  exact ⟨_, rfl, by rw [List.length_set]; exact g1, Yp0 g2 _ ha⟩) (by intro s; unfold Xb9; simp only; rw [hw, Xam (by omega)]) (List.replicate l.length 0) ⟨List.length_replicate, Ypz _ hB⟩
 exact ⟨o, (Xgk e).trans rfl, h1, h2⟩
def Xil (u v : Int) : Int := match it Xim 10 (1, (IntKind.wrap .i64 (BitVec.ofInt (IntKind.bits .i64) u &&& BitVec.ofInt (IntKind.bits .i64) v).toNat)) with | some q => q | none => 7
theorem Yuh : ∀ u v : Fin 8, (-1 ≤ Xil (u.val : Int) (v.val : Int) ∧ Xil (u.val : Int) (v.val : Int) ≤ 1) := by decide +kernel
theorem Xt3 (u v : Nat) (hu : u < 8) (hv : v < 8) : ∃ s, Xg2 u v = some s ∧ -1 ≤ s ∧ s ≤ 1 := by
 have h := Yuh ⟨u, hu⟩ ⟨v, hv⟩
 simp only at h
 unfold Xg2
 rw [Xak, Xad, decide_eq_true (by omega), Xaw, Xak, Xad, decide_eq_true (by omega), Bool.not_true, Xad, Xav]
 unfold Xil at h
 cases e : it Xim 10 (1, (IntKind.wrap .i64 (BitVec.ofInt (IntKind.bits .i64) (u : Int) &&& BitVec.ofInt (IntKind.bits .i64) (v : Int)).toNat)) with
 | none => rw [e] at h; simp only at h; omega
 | some q =>
  rw [e] at h
  rw [Xh4.2 ⟨10, e⟩, Xad]
  exact ⟨q, rfl, h⟩
def Xqi (qp : Int) : Int := if qp.tmod 6 = 0 then 10 else if qp.tmod 6 = 1 then 11 else if qp.tmod 6 = 2 then 13 else if qp.tmod 6 = 3 then 14 else if qp.tmod 6 = 4 then 16 else 18
def Xn1 (qp : Int) : Int := match it (Xio qp) 10 (Xqi qp, 0) with | some q => q | none => 0
theorem Yul : ∀ q : Fin 41, (10 ≤ Xn1 (q.val : Int) ∧ Xn1 (q.val : Int) ≤ 1152) := by decide +kernel
theorem Yjs (qp : Int) (h0 : 0 ≤ qp ∧ qp ≤ 40) : ∃ s, Xg3 qp = some s ∧ 10 ≤ s ∧ s ≤ 1152 := by
 have h := Yul ⟨qp.toNat, by omega⟩
 simp only at h
 rw [show ((qp.toNat : Nat) : Int) = qp by omega] at h
 unfold Xg3
 rw [Xak, Xad, decide_eq_true (by omega), Bool.not_true, Xav, Xai (by omega)]
 have hb : (sel ((qp.tmod 6) == 0) (some (10 : Int)) (sel ((qp.tmod 6) == 1) (some 11) (sel ((qp.tmod 6) == 2) (some 13) (sel ((qp.tmod 6) == 3) (some 14) (sel ((qp.tmod 6) == 4) (some 16) (some 18)))))) = some (Xqi qp) := by
  unfold Xqi
  simp only [Ymq, beq_iff_eq]
  repeat' split
  all_goals rfl
 rw [hb, Xad]
 unfold Xn1 at h
 cases e : it (Xio qp) 10 (Xqi qp, 0) with
 | none => rw [e] at h; simp only at h; omega
 | some q =>
  rw [e] at h
  rw [Xh4.2 ⟨10, e⟩, Xad]
  exact ⟨q, rfl, h⟩
theorem Xt0 (p : Int) (h : 0 ≤ p ∧ p ≤ 15) : ∃ k, Xk8 p = some k ∧ 0 ≤ k ∧ k ≤ 2 := by
 unfold Xk8
 rw [Xak, Xad, decide_eq_true h, Bool.not_true, Xav, Xai (by omega), Xai (by omega), Xai (by omega), Xai (by omega), Xd7, Xad]
 cases ((Xaa .i64 (p.tdiv 4)).tmod 2 == 0 && (p.tmod 4).tmod 2 == 0) with
 | true => exact ⟨0, rfl, by omega, by omega⟩
 | false =>
  rw [Xav, Xd7, Xad]
  cases ((Xaa .i64 (p.tdiv 4)).tmod 2 == 1 && (p.tmod 4).tmod 2 == 1) with
  | true => exact ⟨1, rfl, by omega, by omega⟩
  | false => exact ⟨2, rfl, by omega, by omega⟩
theorem Xbp (k a b c : Int) : ∃ x, Xbs k a b c = some x ∧ (x = a ∨ x = b ∨ x = c) := by
 unfold Xbs
 cases (k == 0) with
 | true => exact ⟨a, rfl, Or.inl rfl⟩
 | false =>
  cases (k == 1) with
  | true => exact ⟨b, rfl, Or.inr (Or.inl rfl)⟩
  | false => exact ⟨c, rfl, Or.inr (Or.inr rfl)⟩
theorem Ysj (qp : Int) (h0 : 0 ≤ qp ∧ qp ≤ 40) (x : Int) (hx : 0 ≤ x ∧ x ≤ 29) : ∃ o, loop (Xea qp) (x, 0) = some o ∧ 0 ≤ o ∧ o ≤ 1856 := by
 obtain ⟨o, e, h1, h2⟩ := Xn2 (f := Xea qp) (qp / 6).toNat (fun i s => 0 ≤ s ∧ s ≤ 29 * 2 ^ i) (by
  intro i s hi ⟨g1, g2⟩
  have h6 : (2 : Int) ^ i ≤ 64 := by
   have : i ≤ 6 := by omega
   obtain rfl | rfl | rfl | rfl | rfl | rfl | rfl : i = 0 ∨ i = 1 ∨ i = 2 ∨ i = 3 ∨ i = 4 ∨ i = 5 ∨ i = 6 := by omega
   all_goals decide
  have h7 : (2 : Int) ^ (i + 1) = 2 * 2 ^ i := by rw [Int.pow_succ, Int.mul_comm]
  unfold Xea
  simp only
  rw [Xai (by omega), Xbl (by omega), wk (e := qp / 6) (by omega) (by omega), Xaj (by omega), wk (e := 2 * s) (by omega) (by omega), wk (e := (i : Int) + 1) (by omega) (by omega)]
  exact ⟨_, rfl, by omega, by rw [h7]; omega⟩) (by intro s; unfold Xea; simp only; rw [Xai (by omega), Xbl (by omega), wk (e := qp / 6) (by omega) (by omega), Xam (by omega)]) x ⟨hx.1, by simp; omega⟩
 have h6 : (2 : Int) ^ (qp / 6).toNat ≤ 64 := by
  generalize hi : (qp / 6).toNat = i
  obtain rfl | rfl | rfl | rfl | rfl | rfl | rfl : i = 0 ∨ i = 1 ∨ i = 2 ∨ i = 3 ∨ i = 4 ∨ i = 5 ∨ i = 6 := by omega
  all_goals decide
 exact ⟨o, e, h1, by omega⟩
theorem Ygn (qp p : Int) (h0 : 0 ≤ qp ∧ qp ≤ 40) (hp : 0 ≤ p ∧ p ≤ 15) : ∃ s, Xg1 qp p = some s ∧ 0 ≤ s ∧ s ≤ 1856 := by
 unfold Xg1
 obtain ⟨k, e, k0, k1⟩ := Xt0 p hp
 rw [e, Xad, Xak, Xad, decide_eq_true h0, Xaw, decide_eq_false (by omega), Xad, Xav, Xai (by omega)]
 obtain ⟨a1, e1, b1⟩ := Xbp k 10 16 13
 obtain ⟨a2, e2, b2⟩ := Xbp k 11 18 14
 obtain ⟨a3, e3, b3⟩ := Xbp k 13 20 16
 obtain ⟨a4, e4, b4⟩ := Xbp k 14 23 18
 obtain ⟨a5, e5, b5⟩ := Xbp k 16 25 20
 obtain ⟨a6, e6, b6⟩ := Xbp k 18 29 23
 rw [e1, e2, e3, e4, e5, e6]
 simp only [Xad, Yug]
 obtain ⟨o, eo, o1, o2⟩ := Ysj qp h0 (sel (qp.tmod 6 == 0) a1 (sel (qp.tmod 6 == 1) a2 (sel (qp.tmod 6 == 2) a3 (sel (qp.tmod 6 == 3) a4 (sel (qp.tmod 6 == 4) a5 (sel (qp.tmod 6 == 5) a6 0)))))) (by
  simp only [Ymq]
  repeat' split
  all_goals omega)
 exact ⟨o, (Xgk eo).trans rfl, o1, o2⟩
theorem Yre {a s B : Int} (ha : -B ≤ a ∧ a ≤ B) (hs : -1 ≤ s ∧ s ≤ 1) : (-B ≤ a * s ∧ a * s ≤ B) ∧ (-B ≤ s * a ∧ s * a ≤ B) := by
 obtain rfl | rfl | rfl : s = -1 ∨ s = 0 ∨ s = 1 := by omega
 all_goals omega
theorem Yj3 (p : List Int) (B : Int) (hB : 0 ≤ B ∧ B ≤ 1000000000000) (hl : p.length = 64) (hb : inB B p) (i v : Nat) (hi : i < 8) (hv : v < 8) : ∃ o, Xi2 p i v = some o ∧ -(8 * B) ≤ o ∧ o ≤ 8 * B := by
 unfold Xi2
 obtain ⟨o, e, h1, h2⟩ := Xn2 (f := Xdz p i v) 8 (fun k s => -(B * k) ≤ s ∧ s ≤ B * k) (by
  intro k s hk ⟨g1, g2⟩
  obtain ⟨q, eq, q0, q1⟩ := Xt3 v k hv hk
  have ha := Xrm hb (i := 8 * i + k) (by omega)
  have hm := (Yre ha ⟨q0, q1⟩).1
  have hk8 : B * k ≤ B * 8 := Int.mul_le_mul_of_nonneg_left (by omega) hB.1
  have hk0 : B * ((k + 1 : Nat) : Int) = B * k + B := by rw [Int.natCast_add, Int.mul_add]; simp
  unfold Xdz
  simp only
  rw [Xaj (by omega), wk (e := 8 * (i : Int)) (by omega) (by omega), wk (e := 8 * (i : Int) + (k : Int)) (by omega) (by omega), Xai (by omega), eq, Xad, show (8 * (i : Int) + (k : Int)).toNat = 8 * i + k by omega, wk (e := p.getD (8 * i + k) 0 * q) (by omega) (by omega), wk (e := s + p.getD (8 * i + k) 0 * q) (by omega) (by omega), wk (e := (k : Int) + 1) (by omega) (by omega)]
  exact ⟨_, rfl, by rw [hk0]; omega, by rw [hk0]; omega⟩) (by intro s; unfold Xdz; rw [Xam (by simp)]) 0 (by simp)
 exact ⟨o, (Xgk e).trans rfl, by omega, by omega⟩
theorem Yg6 (p : List Int) (B : Int) (hB : 0 ≤ B ∧ B ≤ 10000000000) (hl : p.length = 64) (hb : inB B p) : ∃ o, Xg8 p = some o ∧ o.length = 64 ∧ inB (64 * B) o := by
 have hm : maxLen = 9223372036854775807 := rfl
 unfold Xg8
 obtain ⟨h, eh, hh1, hh2⟩ := Xe2 (f := Xcs p) 8 (fun i s => s.length = 8 * i ∧ inB (8 * B) s) (by
  intro i s hi ⟨g1, g2⟩
  obtain ⟨t, et, t1, t2⟩ := Xe2 (f := Xct p ((i : Int), s)) 8 (fun v s => s.length = 8 * i + v ∧ inB (8 * B) s) (by
   intro v s hv ⟨g1, g2⟩
   obtain ⟨r, er, r1, r2⟩ := Yj3 p B ⟨hB.1, by omega⟩ hl hb i v hi hv
   unfold Xct
   simp only
   rw [Xaj (by omega), er, Xad, Xai (by simp only [List.length_singleton]; omega), wk (e := (v : Int) + 1) (by omega) (by omega)]
   exact ⟨_, rfl, by simp; omega, Xyi g2 (Ytk ⟨by omega, r2⟩)⟩) (by intro s; unfold Xct; rw [Xam (by simp)]) s ⟨by omega, g2⟩
  unfold Xcs
  simp only
  rw [Xaj (by omega), et, Xad, wk (e := (i : Int) + 1) (by omega) (by omega)]
  exact ⟨_, rfl, by omega, t2⟩) (by intro s; unfold Xcs; rw [Xam (by simp)]) [] ⟨rfl, Ypy _⟩
 rw [eh, Xad]
 obtain ⟨o, eo, o1, o2⟩ := Xe2 (f := Xca h) 8 (fun i s => s.length = 8 * i ∧ inB (64 * B) s) (by
  intro i s hi ⟨g1, g2⟩
  obtain ⟨t, et, t1, t2⟩ := Xe2 (f := Xcb h ((i : Int), s)) 8 (fun v s => s.length = 8 * i + v ∧ inB (64 * B) s) (by
   intro v r hv ⟨g1, g2⟩
   obtain ⟨a, ea, a1, a2⟩ := Xn2 (f := Xcc h ((i : Int), s) ((v : Int), r)) 8 (fun k s => -(8 * B * k) ≤ s ∧ s ≤ 8 * B * k) (by
    intro k c hk ⟨g1, g2⟩
    obtain ⟨q, eq, q0, q1⟩ := Xt3 i k hi hk
    have ha := Xrm hh2 (i := 8 * k + v) (by omega)
    have hm := (Yre ha ⟨q0, q1⟩).2
    have hk8 : 8 * B * k ≤ 8 * B * 8 := Int.mul_le_mul_of_nonneg_left (by omega) (by omega)
    have hk0 : 8 * B * ((k + 1 : Nat) : Int) = 8 * B * k + 8 * B := by rw [Int.natCast_add, Int.mul_add]; simp
    unfold Xcc
    simp only
    rw [Xaj (by omega), eq, Xad, wk (e := 8 * (k : Int)) (by omega) (by omega), wk (e := 8 * (k : Int) + (v : Int)) (by omega) (by omega), Xai (by omega), Xai (by omega), show (8 * (k : Int) + (v : Int)).toNat = 8 * k + v by omega, wk (e := q * h.getD (8 * k + v) 0) (by omega) (by omega), wk (e := c + q * h.getD (8 * k + v) 0) (by omega) (by omega), wk (e := (k : Int) + 1) (by omega) (by omega)]
    exact ⟨_, rfl, by rw [hk0]; omega, by rw [hk0]; omega⟩) (by intro s; unfold Xcc; rw [Xam (by simp)]) 0 (by simp)
   unfold Xcb
   simp only
   rw [Xaj (by omega), ea, Xad, Xai (by simp only [List.length_singleton]; omega), wk (e := (v : Int) + 1) (by omega) (by omega)]
   exact ⟨_, rfl, by simp; omega, Xyi g2 (Ytk ⟨by omega, by omega⟩)⟩) (by intro s; unfold Xcb; rw [Xam (by simp)]) s ⟨by omega, g2⟩
  unfold Xca
  simp only
  rw [Xaj (by omega), et, Xad, wk (e := (i : Int) + 1) (by omega) (by omega)]
  exact ⟨_, rfl, by omega, t2⟩) (by intro s; unfold Xca; rw [Xam (by simp)]) [] ⟨rfl, Ypy _⟩
 exact ⟨o, (Xgk eo).trans rfl, by omega, o2⟩
theorem Xkh (a b : Int) (ha : -1000000000000 ≤ a ∧ a ≤ 1000000000000) (hb : b = 2 ∨ b = 64) : ∃ d, Xcr a b = some d ∧ b * d ≤ a ∧ a < b * d + b := by
 unfold Xcr
 have h1 : b * (a.tdiv b) + a.tmod b = a := Int.mul_tdiv_add_tmod a b
 have h2 : -b < a.tmod b ∧ a.tmod b < b := by
  have hb0 : 0 < b := by omega
  refine ⟨?_, Int.tmod_lt_of_pos a hb0⟩
  have := Int.lt_tmod_of_pos a hb0
  omega
 rw [Xai (by omega), Xai (by omega)]
 generalize a.tmod b = m at h1 h2
 generalize a.tdiv b = t at h1 h2
 have ht : -1000000000001 ≤ t ∧ t ≤ 1000000000001 := by rcases hb with rfl | rfl <;> omega
 by_cases h : m < 0
 ·
  rw [Xaj h, Xad, wk (e := t) (by omega) (by omega), wk (e := t - 1) (by omega) (by omega)]
  refine ⟨_, rfl, ?_⟩
  rcases hb with rfl | rfl <;> omega
 ·
  rw [Xam h, Xad, wk (e := t) (by omega) (by omega)]
  refine ⟨_, rfl, ?_⟩
  rcases hb with rfl | rfl <;> omega
theorem Xy6 (p : List Int) (hl : p.length = 64) (hb : inB 5760000 p) : ∃ o, Xex p = some o ∧ o.length = 64 ∧ inB 10000000 o := by
 unfold Xex
 obtain ⟨o, e, h1, h2⟩ := Yg6 p 5760000 (by omega) hl hb
 rw [Xjc p 64 10000000 (by omega) (by omega) (by omega) (Ylz hb (by omega)), Xad, Bool.not_true, Xav, e, Xad]
 obtain ⟨r, er, r1, r2⟩ := Xsn (f := Xfb) 64 (fun x => -368640000 ≤ x ∧ x ≤ 368640000) (fun x => -10000000 ≤ x ∧ x ≤ 10000000) (by
  intro i l hi hll hx
  obtain ⟨d, ed, d1, d2⟩ := Xkh (l.getD i 0 + 32) 64 (by omega) (Or.inr rfl)
  unfold Xfb
  simp only [Int.toNat_natCast]
  rw [Xaj (by omega), Xai (by omega), Xai (by omega), wk (e := l.getD i 0 + 32) (by omega) (by omega), ed, Xad, Xai (by omega), Xai (by omega), wk (e := (i : Int) + 1) (by omega) (by omega)]
  exact ⟨d, rfl, by omega, by omega⟩) (by intro s; unfold Xfb; rw [Xam (by simp)]) o h1 (fun x hx => by have := h2 x hx; omega)
 exact ⟨r, (Xgk er).trans rfl, r1, r2⟩
theorem Xr6 (p : List Int) (B : Int) (hB : 0 ≤ B) (hl : p.length = 16) (hb : inB B p) : ∃ o, Xfo p = some o ∧ o.length = 16 ∧ inB B o := by
 unfold Xfo
 rw [Xai (by omega)]
 obtain ⟨o, e, h1, h2⟩ := Xe2 (f := Xdd p) 16 (fun i s => s.length = 16 ∧ inB B s) (by
  intro i s hi ⟨g1, g2⟩
  have ha := Xrm hb (i := i) (by omega)
  unfold Xdd
  simp only
  rw [Xaj (by omega), Xai (by omega), Xai (by omega), Xai (by omega), Xcd (by omega), Xbl (by omega), wk (e := (i : Int) / 4) (by omega) (by omega), wk (e := (i : Int) % 4 * 4) (by omega) (by omega), wk (e := (i : Int) % 4 * 4 + (i : Int) / 4) (by omega) (by omega), Xai (by omega), Xai (by omega), wk (e := (i : Int) + 1) (by omega) (by omega), Int.toNat_natCast]
  exact ⟨_, rfl, by rw [List.length_set]; exact g1, Yp0 g2 _ ha⟩) (by intro s; unfold Xdd; rw [Xam (by simp)]) (List.replicate (16 : Int).toNat 0) ⟨by simp, Ypz _ hB⟩
 exact ⟨o, (Xgk e).trans rfl, h1, h2⟩
theorem Yvl {B a b c d : Int} (h1 : -B ≤ a ∧ a ≤ B) (h2 : -B ≤ b ∧ b ≤ B) (h3 : -B ≤ c ∧ c ≤ B) (h4 : -B ≤ d ∧ d ≤ B) : inB B [a, b, c, d] := fun x hx => by
 simp only [List.mem_cons, List.not_mem_nil, or_false] at hx
 rcases hx with rfl | rfl | rfl | rfl
 ·
  exact h1
 ·
  exact h2
 ·
  exact h3
 ·
  exact h4
theorem Xqw (p : List Int) (B : Int) (hB : 0 ≤ B ∧ B ≤ 1000000000) (hl : p.length = 16) (hb : inB B p) : ∃ o, Xer p = some o ∧ o.length = 16 ∧ inB (4 * B + 2) o := by
 have hm : maxLen = 9223372036854775807 := rfl
 unfold Xer
 obtain ⟨o, e, h1, h2⟩ := Xe2 (f := Xcq p) 4 (fun i s => s.length = 4 * i ∧ inB (4 * B + 2) s) (by
  intro i s hi ⟨g1, g2⟩
  have a0 := Xrm hb (i := 4 * i) (by omega)
  have a1 := Xrm hb (i := 4 * i + 1) (by omega)
  have a2 := Xrm hb (i := 4 * i + 2) (by omega)
  have a3 := Xrm hb (i := 4 * i + 3) (by omega)
  obtain ⟨f, ef, f1, f2⟩ := Xkh (p.getD (4 * i + 1) 0) 2 (by omega) (Or.inl rfl)
  obtain ⟨g, eg, g1', g2'⟩ := Xkh (p.getD (4 * i + 3) 0) 2 (by omega) (Or.inl rfl)
  unfold Xcq
  simp only
  rw [Xaj (by omega), wk (e := 4 * (i : Int)) (by omega) (by omega), wk (e := 4 * (i : Int) + 1) (by omega) (by omega), wk (e := 4 * (i : Int) + 2) (by omega) (by omega), wk (e := 4 * (i : Int) + 3) (by omega) (by omega), Xai (by omega), Xai (by omega), Xai (by omega), Xai (by omega), show (4 * (i : Int)).toNat = 4 * i by omega, show (4 * (i : Int) + 1).toNat = 4 * i + 1 by omega, show (4 * (i : Int) + 2).toNat = 4 * i + 2 by omega, show (4 * (i : Int) + 3).toNat = 4 * i + 3 by omega, ef, Xad, eg, Xad]
  generalize p.getD (4 * i) 0 = a at *
  generalize p.getD (4 * i + 1) 0 = b at *
  generalize p.getD (4 * i + 2) 0 = c at *
  generalize p.getD (4 * i + 3) 0 = d at *
  rw [wk (e := (i : Int) + 1) (by omega) (by omega), wk (e := a + c) (by omega) (by omega), wk (e := a - c) (by omega) (by omega), wk (e := b + g) (by omega) (by omega), wk (e := f - d) (by omega) (by omega), wk (e := a + c + (b + g)) (by omega) (by omega), wk (e := a - c + (f - d)) (by omega) (by omega), wk (e := a - c - (f - d)) (by omega) (by omega), wk (e := a + c - (b + g)) (by omega) (by omega), Xai (by simp only [List.length_cons, List.length_nil]; omega)]
  exact ⟨_, rfl, by simp; omega, Xyi g2 (Yvl (by omega) (by omega) (by omega) (by omega))⟩) (by intro s; unfold Xcq; rw [Xam (by simp)]) [] ⟨rfl, Ypy _⟩
 exact ⟨o, (Xgk e).trans rfl, h1, h2⟩
theorem Xqs (p : List Int) (hl : p.length = 16) (hb : inB 10000000 p) : ∃ o, Xfv p = some o ∧ o.length = 16 ∧ inB 10000000 o := by
 unfold Xfv
 obtain ⟨a, ea, a1, a2⟩ := Xqw p 10000000 (by omega) hl hb
 obtain ⟨b, eb, b1, b2⟩ := Xr6 a _ (by omega) a1 a2
 obtain ⟨c, ec, c1, c2⟩ := Xqw b _ (by omega) b1 b2
 obtain ⟨d, ed, d1, d2⟩ := Xr6 c _ (by omega) c1 c2
 rw [Xjc p 16 10000000 (by omega) (by omega) (by omega) hb, Xad, Bool.not_true, Xav, ea, Xad, eb, Xad, ec, Xad, ed, Xad]
 obtain ⟨r, er, r1, r2⟩ := Xsn (f := Xf7) 16 (fun x => -160000010 ≤ x ∧ x ≤ 160000010) (fun x => -10000000 ≤ x ∧ x ≤ 10000000) (by
  intro i l hi hll hx
  obtain ⟨d, ed, d1, d2⟩ := Xkh (l.getD i 0 + 32) 64 (by omega) (Or.inr rfl)
  unfold Xf7
  simp only [Int.toNat_natCast]
  rw [Xaj (by omega), Xai (by omega), Xai (by omega), wk (e := l.getD i 0 + 32) (by omega) (by omega), ed, Xad, Xai (by omega), Xai (by omega), wk (e := (i : Int) + 1) (by omega) (by omega)]
  exact ⟨d, rfl, by omega, by omega⟩) (by intro s; unfold Xf7; rw [Xam (by simp)]) d d1 (fun x hx => by have := d2 x hx; omega)
 exact ⟨r, (Xgk er).trans rfl, r1, r2⟩
theorem Xpp (l qp p : Int) (hl : -5000 ≤ l ∧ l ≤ 5000) (h0 : 0 ≤ qp ∧ qp ≤ 40) (hp : 0 ≤ p ∧ p ≤ 15) : ∃ o, Xe0 l qp p = some o ∧ -10000000 ≤ o ∧ o ≤ 10000000 := by
 unfold Xe0
 obtain ⟨s, es, q0, q1⟩ := Ygn qp p h0 hp
 rw [Xak, Xad, decide_eq_true hl, Bool.not_true, Xav, es, Xad]
 have m1 : l * s ≤ 5000 * s := Int.mul_le_mul_of_nonneg_right hl.2 q0
 have m2 : -5000 * s ≤ l * s := Int.mul_le_mul_of_nonneg_right hl.1 q0
 rw [wk (by omega) (by omega)]
 exact ⟨_, rfl, by omega, by omega⟩
theorem Xpm (l qp : Int) (hl : -5000 ≤ l ∧ l ≤ 5000) (h0 : 0 ≤ qp ∧ qp ≤ 40) : ∃ o, Xez l qp = some o ∧ -5760000 ≤ o ∧ o ≤ 5760000 := by
 unfold Xez
 obtain ⟨s, es, q0, q1⟩ := Yjs qp h0
 rw [Xak, Xad, decide_eq_true hl, Bool.not_true, Xav, es, Xad]
 have m1 : l * s ≤ 5000 * s := Int.mul_le_mul_of_nonneg_right hl.2 (by omega)
 have m2 : -5000 * s ≤ l * s := Int.mul_le_mul_of_nonneg_right hl.1 (by omega)
 rw [wk (by omega) (by omega)]
 exact ⟨_, rfl, by omega, by omega⟩
theorem Ytv {l : List Int} (h : Ysb l = true) : l.length = 64 ∧ inB 5000 l := by
 obtain ⟨h1, h2⟩ := Ysc h
 refine ⟨h1, fun x hx => ?_⟩
 have := List.all_eq_true.1 h2 x hx
 unfold Yyg at this
 rwa [decide_eq_true_eq] at this
theorem Ynq {c : Xkj} (h : Xjk c = true) : 0 ≤ c.Qp ∧ c.Qp ≤ 40 := by
 unfold Xjk at h
 rw [Bool.and_eq_true, decide_eq_true_eq] at h
 exact h.1
theorem Xoe (p : List Int) (c : Xkj) (hc : Xjk c = true) (hp : Ysb p = true) : ∃ o, Xdb p c = some (o, true) ∧ o.length = 64 ∧ inB 10000000 o := by
 have hm : maxLen = 9223372036854775807 := rfl
 have hq := Ynq hc
 obtain ⟨hl, hb⟩ := Ytv hp
 unfold Xdb
 rw [Xew, Xad, hc, Xaw, Xjc p 64 5000 (by omega) (by omega) (by omega) hb, Xad, Bool.not_true, Xad, Xav]
 cases hE : c.Exact with
 | true =>
  obtain ⟨o, e, h1, h2⟩ := Xfd 8 (Or.inr rfl) p 5000 (by omega) (by omega) hb
  rw [Xaw, e, Xad]
  exact ⟨o, rfl, by omega, Ylz h2 (by omega)⟩
 | false =>
  rw [Xav]
  cases hL : c.Large with
  | true =>
   obtain ⟨w, ew, w1, w2⟩ := Xfd 8 (Or.inr rfl) p 5000 (by omega) (by omega) hb
   obtain ⟨l, el, l1, l2⟩ := Xsn (f := Xbe c) 64 (fun x => -5000 ≤ x ∧ x ≤ 5000) (fun x => -5760000 ≤ x ∧ x ≤ 5760000) (by
    intro i l hi hll hx
    obtain ⟨d, ed, d1, d2⟩ := Xpm (l.getD i 0) c.Qp hx hq
    unfold Xbe
    simp only [Int.toNat_natCast]
    rw [Xaj (by omega), Xai (by omega), Xai (by omega), ed, Xad, Xai (by omega), Xai (by omega), wk (e := (i : Int) + 1) (by omega) (by omega)]
    exact ⟨d, rfl, d1, d2⟩) (by intro s; unfold Xbe; rw [Xam (by simp)]) w (by omega) w2
   obtain ⟨o, e, h1, h2⟩ := Xy6 l l1 l2
   rw [Xaw, ew, Xad, el, Xad, e, Xad]
   exact ⟨o, rfl, h1, h2⟩
  | false =>
   obtain ⟨o, eo, o1, o2⟩ := Xe2 (f := Xb5 p c) 4 (fun k s => s.length = 64 ∧ inB 10000000 s) (by
    intro k s hk ⟨g1, g2⟩
    have hcut : ((p.drop (16 * k)).take 16).length = 16 := by rw [List.length_take, List.length_drop]; omega
    obtain ⟨a, ea, a1, a2⟩ := Xfd 4 (Or.inl rfl) ((p.drop (16 * k)).take 16) 5000 (by omega) (by omega) (Yq0 (Yqz hb _) _)
    obtain ⟨l, el, l1, l2⟩ := Xsn (f := Xbc c) 16 (fun x => -5000 ≤ x ∧ x ≤ 5000) (fun x => -10000000 ≤ x ∧ x ≤ 10000000) (by
     intro i l hi hll hx
     obtain ⟨d, ed, d1, d2⟩ := Xpp (l.getD i 0) c.Qp i hx hq (by omega)
     unfold Xbc
     simp only [Int.toNat_natCast]
     rw [Xaj (by omega), Xai (by omega), Xai (by omega), ed, Xad, Xai (by omega), Xai (by omega), wk (e := (i : Int) + 1) (by omega) (by omega)]
     exact ⟨d, rfl, d1, d2⟩) (by intro s; unfold Xbc; rw [Xam (by simp)]) a (by omega) a2
    obtain ⟨b, eb, b1, b2⟩ := Xqs l l1 l2
    obtain ⟨r, er, r1, r2⟩ := Xe2 (f := Xbf ((k : Int), s) b) 16 (fun i s => s.length = 64 ∧ inB 10000000 s) (by
     intro i s hi ⟨g1, g2⟩
     have ha := Xrm b2 (i := i) (by omega)
     unfold Xbf
     simp only
     rw [Xaj (by omega), Xai (by omega), Xai (by omega), Xai (by omega), Xai (by omega), Xai (by omega), Xai (by omega), Xbl (a := (k : Int)) (by omega), Xbl (a := (i : Int)) (by omega), Xcd (a := (k : Int)) (by omega), Xcd (a := (i : Int)) (by omega), wk (e := (k : Int) / 2) (by omega) (by omega), wk (e := (k : Int) / 2 * 4) (by omega) (by omega), wk (e := (i : Int) / 4) (by omega) (by omega), wk (e := (k : Int) / 2 * 4 + (i : Int) / 4) (by omega) (by omega), wk (e := 8 * ((k : Int) / 2 * 4 + (i : Int) / 4)) (by omega) (by omega), wk (e := (k : Int) % 2 * 4) (by omega) (by omega), wk (e := 8 * ((k : Int) / 2 * 4 + (i : Int) / 4) + (k : Int) % 2 * 4) (by omega) (by omega), wk (e := 8 * ((k : Int) / 2 * 4 + (i : Int) / 4) + (k : Int) % 2 * 4 + (i : Int) % 4) (by omega) (by omega), Xai (by omega), Xai (by omega), wk (e := (i : Int) + 1) (by omega) (by omega), Int.toNat_natCast]
     exact ⟨_, rfl, by rw [List.length_set]; exact g1, Yp0 g2 _ ha⟩) (by intro s; unfold Xbf; rw [Xam (by simp)]) s ⟨g1, g2⟩
    unfold Xb5
    simp only
    rw [Xaj (by omega), wk (e := 16 * (k : Int)) (by omega) (by omega), wk (e := 16 * (k : Int) + 16) (by omega) (by omega), Xai (by omega), show (16 * (k : Int)).toNat = 16 * k by omega, show (16 * (k : Int) + 16).toNat - 16 * k = 16 by omega, ea, Xad, el, Xad, eb, Xad, er, Xad, wk (e := (k : Int) + 1) (by omega) (by omega)]
    exact ⟨_, rfl, r1, r2⟩) (by intro s; unfold Xb5; rw [Xam (by simp)]) (List.replicate (64 : Int).toNat 0) ⟨by simp, Ypz _ (by omega)⟩
   rw [Xav, Xai (by omega), eo, Xad]
   exact ⟨o, rfl, o1, o2⟩
theorem Xq1 (l : List Int) (h : Xm9 l = true) : Xl8 l = some true := by
 obtain ⟨h1, h2⟩ := Xre h
 unfold Xl8
 rw [Xa8 (by simp only [bne_eq_false_iff_eq]; omega), Xno l.length (f := Xha l) (by
  intro i hi
  have := h2 i (by omega)
  unfold Xha
  rw [Xaj (by omega), Xai (by omega), Xak, Xad, Int.toNat_natCast, decide_eq_true this, Bool.not_true, Xav, wk (by omega) (by omega)]
  rfl) (by unfold Xha; rw [Xam (by omega)]), Xad]
theorem Ynu {l : List Int} (h1 : l.length = 64) (h2 : ∀ x ∈ l, 0 ≤ x ∧ x ≤ 255) : Xm9 l = true := by
 unfold Xm9
 rw [Bool.and_eq_true, decide_eq_true_eq, List.all_eq_true]
 exact ⟨h1, fun x hx => by unfold Yvd; rw [decide_eq_true_eq]; exact h2 x hx⟩
theorem Xtz (g b : List Int) (hg : Xm9 g = true) (hl : b.length = 64) (hb : inB 10000000 b) : ∃ o, Xg0 g b = some o ∧ Xm9 o = true := by
 have hm : maxLen = 9223372036854775807 := rfl
 obtain ⟨g1, g2⟩ := Xre hg
 unfold Xg0
 rw [Xq1 g hg, Xad, Xaw, Xjc b 64 10000000 (by omega) (by omega) (by omega) hb, Xad, Bool.not_true, Xad, Xav]
 obtain ⟨o, e, h1, h2⟩ := Xe2 (f := Xey g b) 64 (fun i s => s.length = i ∧ ∀ x ∈ s, 0 ≤ x ∧ x ≤ 255) (by
  intro i s hi ⟨k1, k2⟩
  have ha := Xrm hb (i := i) (by omega)
  have hd := g2 i hi
  have br := Xm3 (n := g.getD i 0 + b.getD i 0) (a := 0) (b := 255) (by omega)
  unfold Xey
  simp only [Int.toNat_natCast]
  rw [Xaj (by omega), Xai (by omega), Xai (by omega), wk (e := g.getD i 0 + b.getD i 0) (by omega) (by omega), Xe9, Xad, Xai (by simp only [List.length_singleton]; omega), wk (e := (i : Int) + 1) (by omega) (by omega)]
  refine ⟨_, rfl, by simp; omega, fun x hx => ?_⟩
  rcases List.mem_append.1 hx with hx | hx
  ·
   exact k2 x hx
  ·
   rw [List.mem_singleton.1 hx]; exact br) (by intro s; unfold Xey; rw [Xam (by simp)]) [] ⟨rfl, fun x hx => by simp at hx⟩
 exact ⟨o, (Xgk e).trans rfl, Ynu h1 h2⟩
def Xzy (e : Xkl) : Prop := (e.Above.length = 0 ∨ e.Above.length = 8) ∧ (e.Left.length = 0 ∨ e.Left.length = 8) ∧ (∀ x ∈ e.Above, 0 ≤ x ∧ x ≤ 255) ∧ (∀ x ∈ e.Left, 0 ≤ x ∧ x ≤ 255) ∧ -1 ≤ e.Corner ∧ e.Corner ≤ 255
theorem Ycp {p : Pic} (ok : Xb8 p = true) (x y : Int) : Xb4 p x y 8 8 = some (Xlq p x y) := by
 obtain ⟨k1, k2, k3⟩ := Xbk ok
 unfold Xb4 Xlq
 rw [Xfw, Xad, ok, Xaw, Xak, Xad, Xak, Xad, wk (e := p.Wide - 8) (by omega) (by omega), wk (e := p.High - 8) (by omega) (by omega), Xak, Xad, Xak, Xad]
 simp only [Xd7, Xad]
 congr 1
 rw [Bool.eq_iff_iff]
 simp only [Bool.and_eq_true, decide_eq_true_eq]
 omega
theorem Xmn {p : Pic} (ok : Xb8 p = true) {x y : Int} (hx : x.tmod 8 = 0) (hy : y.tmod 8 = 0) (h : Xlq p x y = true) : Xjg p x y = some true := by
 unfold Xjg
 rw [Xai (by omega), hx, Xai (by omega), hy, Ycp ok, Xad, h]
 rfl
theorem Yf8 {p : Pic} (ok : Xb8 p = true) {x y : Int} (hx : x.tmod 8 = 0) (hy : y.tmod 8 = 0) (h : Xlq p x y = true) : ∃ e, Xgz p x y = some (e, true) ∧ Xzy e := by
 have hm : maxLen = 9223372036854775807 := rfl
 obtain ⟨k1, k2, k3⟩ := Xbk ok
 have h' := h
 unfold Xlq at h'
 rw [decide_eq_true_eq] at h'
 unfold Xgz
 rw [Xmn ok hx hy h, Xad, Bool.not_true, Xav]
 obtain ⟨o, e, o1, o2, o3, o4, o5, o6⟩ := Xe2 (f := Xd9 p x y) 8 (fun i s => (y > 0 → s.1.length = i) ∧ (¬ y > 0 → s.1.length = 0) ∧ (x > 0 → s.2.length = i) ∧ (¬ x > 0 → s.2.length = 0) ∧ (∀ z ∈ s.1, 0 ≤ z ∧ z ≤ 255) ∧ (∀ z ∈ s.2, 0 ≤ z ∧ z ≤ 255)) (by
  intro i s hi ⟨g1, g2, g3, g4, g5, g6⟩
  obtain ⟨a, b⟩ := s
  simp only at g1 g2 g3 g4 g5 g6
  have d1 := Xpx p (x + i) (y - 1)
  have d2 := Xpx p (x - 1) (y + i)
  have st1 : ∃ a', (sel (decide (y > 0)) (bnd (Xfa p (Xaa .i64 (x + (i : Int))) (Xaa .i64 (y - 1))) fun q16 => req ((a.length + ([q16]).length) * 8 ≤ 140737488355328 ∧ a.length + ([q16]).length ≤ maxLen) <| some (a ++ ([q16]))) (some a)) = some a' ∧ (y > 0 → a'.length = i + 1) ∧ (¬ y > 0 → a'.length = 0) ∧ (∀ z ∈ a', 0 ≤ z ∧ z ≤ 255) := by
   by_cases c : y > 0
   ·
    rw [Xaj c, wk (e := x + (i : Int)) (by omega) (by omega), wk (e := y - 1) (by omega) (by omega), Xj7 ok, Xad, Xai (by simp only [List.length_singleton]; have := g1 c; omega)]
    refine ⟨_, rfl, fun _ => by simp; exact g1 c, fun hn => absurd c hn, fun z hz => ?_⟩
    rcases List.mem_append.1 hz with hz | hz
    ·
     exact g5 z hz
    ·
     rw [List.mem_singleton.1 hz]; exact d1
   ·
    rw [Xam c]
    exact ⟨_, rfl, fun hn => absurd hn c, fun _ => g2 c, g5⟩
  obtain ⟨a', ea, a1, a2, a3⟩ := st1
  have st2 : ∃ b', (sel (decide (x > 0)) (bnd (Xfa p (Xaa .i64 (x - 1)) (Xaa .i64 (y + (i : Int)))) fun q17 => req ((b.length + ([q17]).length) * 8 ≤ 140737488355328 ∧ b.length + ([q17]).length ≤ maxLen) <| some (a', (b ++ ([q17])))) (some (a', b))) = some (a', b') ∧ (x > 0 → b'.length = i + 1) ∧ (¬ x > 0 → b'.length = 0) ∧ (∀ z ∈ b', 0 ≤ z ∧ z ≤ 255) := by
   by_cases c : x > 0
   ·
    rw [Xaj c, wk (e := y + (i : Int)) (by omega) (by omega), wk (e := x - 1) (by omega) (by omega), Xj7 ok, Xad, Xai (by simp only [List.length_singleton]; have := g3 c; omega)]
    refine ⟨_, rfl, fun _ => by simp; exact g3 c, fun hn => absurd c hn, fun z hz => ?_⟩
    rcases List.mem_append.1 hz with hz | hz
    ·
     exact g6 z hz
    ·
     rw [List.mem_singleton.1 hz]; exact d2
   ·
    rw [Xam c]
    exact ⟨_, rfl, fun hn => absurd hn c, fun _ => g4 c, g6⟩
  obtain ⟨b', eb, b1, b2, b3⟩ := st2
  unfold Xd9
  simp only
  rw [Xaj (by omega), ea, Xad, eb, Xad, wk (e := (i : Int) + 1) (by omega) (by omega)]
  exact ⟨(a', b'), rfl, a1, a2, b1, b2, a3, b3⟩) (by intro s; unfold Xd9; rw [Xam (by simp)]) ([], []) ⟨fun _ => rfl, fun _ => rfl, fun _ => rfl, fun _ => rfl, fun z hz => by simp at hz, fun z hz => by simp at hz⟩
 rw [e, Xad, Xd7, Xad]
 have d3 := Xpx p (x - 1) (y - 1)
 have ha : o.1.length = 0 ∨ o.1.length = 8 := by
  by_cases c : y > 0
  ·
   exact Or.inr (o1 c)
  ·
   exact Or.inl (o2 c)
 have hb : o.2.length = 0 ∨ o.2.length = 8 := by
  by_cases c : x > 0
  ·
   exact Or.inr (o3 c)
  ·
   exact Or.inl (o4 c)
 cases hc : (decide (x > 0) && decide (y > 0)) with
 | true =>
  rw [Xaw, wk (e := x - 1) (by omega) (by omega), wk (e := y - 1) (by omega) (by omega), Xj7 ok, Xad, Xad]
  exact ⟨_, rfl, ha, hb, o5, o6, by simp only; omega, by simp only; omega⟩
 | false =>
  rw [Xav, Xad]
  exact ⟨_, rfl, ha, hb, o5, o6, by simp only; omega, by simp only; omega⟩
theorem Xq4 (l : List Int) (hl : l.length = 0 ∨ l.length = 8) (h : ∀ x ∈ l, 0 ≤ x ∧ x ≤ 255) : Xjh l = some true := by
 unfold Xjh
 have hc : (sel ((l.length : Int) != 0) (some ((l.length : Int) != 8)) (some false)) = some false := by
  rcases hl with e | e
  ·
   rw [e]; rfl
  ·
   rw [e]; rfl
 rw [hc, Xad, Xav, Xno l.length (f := Xhb l) (by
  intro i hi
  have := h (l.getD i 0) (by rw [Xce l i hi]; exact List.getElem_mem _)
  unfold Xhb
  rw [Xaj (by omega), Xai (by omega), Xak, Xad, Int.toNat_natCast, decide_eq_true this, Bool.not_true, Xav, wk (by omega) (by omega)]
  rfl) (by unfold Xhb; rw [Xam (by omega)]), Xad]
theorem Xqr {e : Xkl} (h : Xzy e) : Xl5 e = some true := by
 obtain ⟨h1, h2, h3, h4, h5, h6⟩ := h
 unfold Xl5
 rw [Xq4 _ h1 h3, Xad, Xaw, Xq4 _ h2 h4, Xad, Xaw, Xak, Xad, decide_eq_true ⟨h5, h6⟩, Xad]
theorem Xps (l : List Int) (k : Nat) (hk : k < 8) (hl : l.length = 0 ∨ l.length = 8) (h : ∀ x ∈ l, 0 ≤ x ∧ x ≤ 255) : ∃ x, Xc5 l k = some x ∧ 0 ≤ x ∧ x ≤ 255 := by
 unfold Xc5
 rcases hl with e | e
 ·
  rw [Xb2 (by rw [e]; rfl)]; exact ⟨_, rfl, by omega, by omega⟩
 ·
  rw [Xa8 (by rw [e]; rfl), Xai (by omega), Int.toNat_natCast]
  exact ⟨_, rfl, h _ (by rw [Xce l k (by omega)]; exact List.getElem_mem _)⟩
theorem Xt6 {e : Xkl} (h : Xzy e) : ∃ x, Xi3 e = some x ∧ 0 ≤ x ∧ x ≤ 255 := by
 obtain ⟨h1, h2, h3, h4, _, _⟩ := h
 unfold Xi3
 rw [wk (e := (e.Above.length : Int) + (e.Left.length : Int)) (by omega) (by omega)]
 by_cases hz : (e.Above.length : Int) + (e.Left.length : Int) = 0
 ·
  rw [Xb2 (by simpa using hz)]; exact ⟨_, rfl, by omega, by omega⟩
 ·
  rw [Xa8 (by simpa using hz), Xai (by omega), Xbl (by omega), wk (e := ((e.Above.length : Int) + (e.Left.length : Int)) / 2) (by omega) (by omega)]
  obtain ⟨a, ea, a1, a2⟩ := Xn2 (f := Xgi e) e.Above.length (fun i s => 0 ≤ s ∧ s ≤ ((e.Above.length : Int) + (e.Left.length : Int)) / 2 + 255 * i) (by
   intro i s hi ⟨g1, g2⟩
   have := h3 (e.Above.getD i 0) (by rw [Xce _ i hi]; exact List.getElem_mem _)
   unfold Xgi
   simp only [Int.toNat_natCast]
   rw [Xaj (by omega), Xai (by omega), wk (e := s + e.Above.getD i 0) (by omega) (by omega), wk (e := (i : Int) + 1) (by omega) (by omega)]
   exact ⟨_, rfl, by omega, by omega⟩) (by intro s; unfold Xgi; rw [Xam (by simp)]) (((e.Above.length : Int) + (e.Left.length : Int)) / 2) ⟨by omega, by omega⟩
  obtain ⟨b, eb, b1, b2⟩ := Xn2 (f := Xgj e) e.Left.length (fun i s => 0 ≤ s ∧ s ≤ ((e.Above.length : Int) + (e.Left.length : Int)) / 2 + 255 * e.Above.length + 255 * i) (by
   intro i s hi ⟨g1, g2⟩
   have := h4 (e.Left.getD i 0) (by rw [Xce _ i hi]; exact List.getElem_mem _)
   unfold Xgj
   simp only [Int.toNat_natCast]
   rw [Xaj (by omega), Xai (by omega), wk (e := s + e.Left.getD i 0) (by omega) (by omega), wk (e := (i : Int) + 1) (by omega) (by omega)]
   exact ⟨_, rfl, by omega, by omega⟩) (by intro s; unfold Xgj; rw [Xam (by simp)]) a ⟨by omega, by omega⟩
  rw [ea, Xad, eb, Xad, Xai hz, Xbl b1]
  have hn : (e.Above.length : Int) + (e.Left.length : Int) = 8 ∨ (e.Above.length : Int) + (e.Left.length : Int) = 16 := by omega
  have hr : 0 ≤ b / ((e.Above.length : Int) + (e.Left.length : Int)) ∧ b / ((e.Above.length : Int) + (e.Left.length : Int)) ≤ 255 := by
   rcases hn with hn | hn <;> rw [hn] <;> omega
  rw [wk (by omega) (by omega)]
  exact ⟨_, rfl, hr⟩
theorem Ygb (m : Int) (hm0 : 0 ≤ m ∧ m ≤ 3) {e : Xkl} (h : Xzy e) : ∃ g, Xfm m e = some g ∧ Xm9 g = true := by
 have hm : maxLen = 9223372036854775807 := rfl
 have h' := h
 obtain ⟨h1, h2, h3, h4, h5, h6⟩ := h'
 obtain ⟨mid, em, m1, m2⟩ := Xt6 h
 unfold Xfm
 rw [Xqr h, Xad, Xaw, Xak, Xad, decide_eq_true hm0, Bool.not_true, Xad, Xav]
 have hc : ∃ v, sel (decide (e.Corner < 0)) (some (128 : Int)) (some e.Corner) = some v ∧ 0 ≤ v ∧ v ≤ 255 := by
  by_cases c : e.Corner < 0
  ·
   rw [Xaj c]; exact ⟨_, rfl, by omega, by omega⟩
  ·
   rw [Xam c]; exact ⟨_, rfl, by omega, by omega⟩
 obtain ⟨v, ev, v1, v2⟩ := hc
 rw [ev, Xad]
 obtain ⟨o, eo, o1, o2⟩ := Xe2 (f := Xda m e v) 64 (fun i s => s.length = i ∧ ∀ x ∈ s, 0 ≤ x ∧ x ≤ 255) (by
  intro i s hi ⟨g1, g2⟩
  obtain ⟨a, ea, a1, a2⟩ := Xps e.Above (i % 8) (by omega) h1 h3
  obtain ⟨b, eb, b1, b2⟩ := Xps e.Left (i / 8) (by omega) h2 h4
  have br := Xm3 (n := b + a - v) (a := 0) (b := 255) (by omega)
  have put : ∀ z : Int, 0 ≤ z ∧ z ≤ 255 → (s ++ [z]).length = i + 1 ∧ ∀ x ∈ s ++ [z], 0 ≤ x ∧ x ≤ 255 := by
   intro z hz
   refine ⟨by simp; omega, fun x hx => ?_⟩
   rcases List.mem_append.1 hx with hx | hx
   ·
    exact g2 x hx
   ·
    rw [List.mem_singleton.1 hx]; exact hz
  unfold Xda
  simp only
  rw [Xaj (by omega), Xai (by omega), Xcd (by omega), show (i : Int) % 8 = ((i % 8 : Nat) : Int) by omega, ea, Xad, Xai (by omega), Xbl (by omega), wk (e := (i : Int) / 8) (by omega) (by omega), show (i : Int) / 8 = ((i / 8 : Nat) : Int) by omega, eb, Xad, wk (e := (i : Int) + 1) (by omega) (by omega), em]
  cases (m == 0) with
  | true =>
   rw [Xaw, Xad, Xai (by simp only [List.length_singleton]; omega), Xad]
   exact ⟨_, rfl, put _ ⟨m1, m2⟩⟩
  | false =>
   rw [Xav]
   cases (m == 1) with
   | true =>
    rw [Xaw, Xai (by simp only [List.length_singleton]; omega), Xad]
    exact ⟨_, rfl, put _ ⟨a1, a2⟩⟩
   | false =>
    rw [Xav]
    cases (m == 2) with
    | true =>
     rw [Xaw, Xai (by simp only [List.length_singleton]; omega), Xad]
     exact ⟨_, rfl, put _ ⟨b1, b2⟩⟩
    | false =>
     rw [Xav, wk (e := b + a) (by omega) (by omega), wk (e := b + a - v) (by omega) (by omega), Xe9, Xad, Xai (by simp only [List.length_singleton]; omega), Xad]
     exact ⟨_, rfl, put _ br⟩) (by intro s; unfold Xda; rw [Xam (by simp)]) [] ⟨rfl, fun x hx => by simp at hx⟩
 exact ⟨o, (Xgk eo).trans rfl, Ynu o1 o2⟩
theorem Yj6 {p : Pic} {x y : Int} {d : List Int} (ok : Xb8 p = true) (h0 : Xlq p x y = true) (hd : Xm9 d = true) : ∃ p', Xhc p x y d = some p' ∧ Xb8 p' = true ∧ p'.Wide = p.Wide ∧ p'.High = p.High := by
 have hm : maxLen = 9223372036854775807 := rfl
 obtain ⟨k1, k2, k3⟩ := Xbk ok
 have ar := Xd0 k1 k2
 unfold Xlq at h0
 rw [decide_eq_true_eq] at h0
 have hdl := (Xre hd).1
 have hn := Xbj p.Dots
 unfold Xhc
 rw [Xai (by omega)]
 obtain ⟨o, e, o1⟩ := Xe2 (f := Xe1 p x y d) 64 (fun _ s => s.length = p.Dots.size) (by
  intro i s hi g1
  have b1 : 0 ≤ (y + (i : Int) / 8) * p.Wide := Int.mul_nonneg (by omega) (by omega)
  have b2 : (y + (i : Int) / 8) * p.Wide ≤ (p.High - 1) * p.Wide := Int.mul_le_mul_of_nonneg_right (by omega) (by omega)
  have b3 : (p.High - 1) * p.Wide = p.Wide * p.High - p.Wide := by rw [Int.sub_mul, Int.one_mul, Int.mul_comm]
  unfold Xe1
  simp only
  rw [Xaj (by omega), Xai (by omega), Xai (by omega), Xai (by omega), Xbl (by omega), Xcd (by omega), wk (e := (i : Int) / 8) (by omega) (by omega), wk (e := y + (i : Int) / 8) (by omega) (by omega), wk (e := (y + (i : Int) / 8) * p.Wide) (by omega) (by omega), wk (e := (y + (i : Int) / 8) * p.Wide + x) (by omega) (by omega), wk (e := (y + (i : Int) / 8) * p.Wide + x + (i : Int) % 8) (by omega) (by omega), Xai (by omega), Xai (by omega), wk (e := (i : Int) + 1) (by omega) (by omega)]
  exact ⟨_, rfl, by rw [List.length_set]; exact g1⟩) (by intro s; unfold Xe1; rw [Xam (by simp)]) (Xbr p.Dots) hn
 refine ⟨_, (Xgk e).trans rfl, Xws k1 k2 ?_, rfl, rfl⟩
 simp only
 rw [strOfNums_size]; omega
def Xqg (n : Int) : Bool := decide (n.tmod 8 = 0) && decide (8 ≤ n ∧ n ≤ 64)
theorem Xsb (n : Int) : Xjj n = some (Xqg n) := by
 unfold Xjj Xqg
 rw [Xai (by omega), Xak, Xad, Xd7, Xad, Yk9]
theorem Yl0 {V O : Type} {f g : V → Option (Lp V O)} (I : V → Prop) (h : ∀ v, I v → f v = g v) (hI : ∀ v v', I v → g v = some (.go v') → I v') : ∀ (k : Nat) (v : V), I v → it f k v = it g k v
 | 0, _, _ => rfl
 | k + 1, v, hv => by
  rw [it, it, h v hv]
  cases e : g v with
  | none => rfl
  | some s =>
   cases s with
   | go y => exact Yl0 I h hI k y (hI v y hv e)
   | done o => rfl
theorem Xyy {V O : Type} {f g : V → Option (Lp V O)} (I : V → Prop) (h : ∀ v, I v → f v = g v) (hI : ∀ v v', I v → g v = some (.go v') → I v') {v : V} (hv : I v) : loop f v = loop g v := by
 apply Option.ext
 intro o
 rw [Xh4, Xh4]
 exact ⟨fun ⟨k, hk⟩ => ⟨k, by rw [← Yl0 I h hI k v hv]; exact hk⟩, fun ⟨k, hk⟩ => ⟨k, by rw [Yl0 I h hI k v hv]; exact hk⟩⟩
theorem Yp4 {V O : Type} {f : V → Option (Lp V O)} {v : V} {o : O} (k : Nat) (h : it f k v = some o) : loop f v = some o := Xh4.2 ⟨k, h⟩
theorem Yfh {a b : List Int} {n : Nat} (ha : a.length = n) (hb : b.length = n) (h : ∀ i : Nat, i < n → a.getD i 0 = b.getD i 0) : a = b := by
 apply List.ext_getElem (by omega)
 intro i h1 h2
 have := h i (by omega)
 rwa [Xce a i h1, Xce b i h2] at this
theorem Xjl {n : Nat} (g : Nat → Int) {i : Nat} (h : i < n) : ((List.range n).map g).getD i 0 = g i := by
 rw [Xce _ i (by simpa using h)]; simp
theorem Yu7 {α : Type} {f : Int × List α → Option (Lp (Int × List α) (List α))} (n : Nat) (g : Nat → α) (a : List α) (hs : ∀ i : Nat, i < n → f ((i : Int), a ++ (List.range i).map g) = some (.go (((i + 1 : Nat) : Int), a ++ (List.range i).map g ++ [g i]))) (he : f ((n : Int), a ++ (List.range n).map g) = some (.done (a ++ (List.range n).map g))) : loop f (0, a) = some (a ++ (List.range n).map g) := by
 have key : ∀ i : Nat, i ≤ n → loop f ((i : Int), a ++ (List.range i).map g) = some (a ++ (List.range n).map g) := by
  refine Xgo _ (Xck he) ?_
  intro i hi ih
  refine lgo (hs i hi) ?_
  rw [List.append_assoc, show (List.range i).map g ++ [g i] = (List.range (i + 1)).map g by simp [List.range_succ]]
  exact ih
 have := key 0 (by omega)
 simpa using this
theorem Xh3 {S : Type} {f : Int × S → Option (Lp (Int × S) S)} (n : Nat) (I : Nat → S → Prop) (hs : ∀ (i : Nat) (l : S), i < n → I i l → ∃ l', f ((i : Int), l) = some (.go (((i + 1 : Nat) : Int), l')) ∧ I (i + 1) l') (he : ∀ l, I n l → f ((n : Int), l) = some (.done l)) (l0 : S) (h0 : I 0 l0) : ∃ o, loop f (0, l0) = some o ∧ I n o := by
 have key : ∀ i : Nat, i ≤ n → ∀ l, I i l → ∃ o, loop f ((i : Int), l) = some o ∧ I n o := by
  refine Xgo _ ?_ ?_
  ·
   intro l h; exact ⟨l, Xck (he l h), h⟩
  ·
   intro i hi ih l h
   obtain ⟨l', e, h'⟩ := hs i l hi h
   obtain ⟨o, e2, h2⟩ := ih l' h'
   exact ⟨o, lgo e e2, h2⟩
 exact key 0 (by omega) l0 h0
theorem Ysg {f : Int × List Int → Option (Lp (Int × List Int) (List Int))} (n : Nat) (g : Nat → Int) (l : List Int) (hl : l.length = n) (hs : ∀ (i : Nat) (s : List Int), i < n → s.length = n → s.getD i 0 = l.getD i 0 → f ((i : Int), s) = some (.go (((i + 1 : Nat) : Int), s.set i (g i)))) (he : ∀ s : List Int, s.length = n → f ((n : Int), s) = some (.done s)) : loop f (0, l) = some ((List.range n).map g) := by
 obtain ⟨o, e, h1, h2, _⟩ := Xh3 (f := f) n (fun i s => s.length = n ∧ (∀ j, j < i → s.getD j 0 = g j) ∧ ∀ j, i ≤ j → s.getD j 0 = l.getD j 0) (by
  intro i s hi ⟨g1, g2, g3⟩
  refine ⟨_, hs i s hi g1 (g3 i (Nat.le_refl _)), by rw [List.length_set]; exact g1, fun j hj => ?_, fun j hj => ?_⟩
  ·
   rw [Xfq s i j _ (by omega)]
   by_cases h : i = j
   ·
    rw [if_pos h, h]
   ·
    rw [if_neg h]; exact g2 j (by omega)
  ·
   rw [Xfq s i j _ (by omega), if_neg (by omega)]; exact g3 j (by omega)) (fun s hs => he s hs.1) l ⟨hl, fun j hj => by omega, fun _ _ => rfl⟩
 rw [e]
 congr 1
 exact Yfh h1 (by simp) fun i hi => by rw [h2 i hi, Xjl g hi]
theorem Ypw : Xm6 = Xcr := rfl
theorem Yjr (qp : Int) (h0 : 0 ≤ qp ∧ qp ≤ 40) : Xg3 qp = some (Xn1 qp) := by
 have h := Yul ⟨qp.toNat, by omega⟩
 simp only at h
 rw [show ((qp.toNat : Nat) : Int) = qp by omega] at h
 unfold Xg3
 rw [Xak, Xad, decide_eq_true (by omega), Bool.not_true, Xav, Xai (by omega)]
 have hb : (sel ((qp.tmod 6) == 0) (some (10 : Int)) (sel ((qp.tmod 6) == 1) (some 11) (sel ((qp.tmod 6) == 2) (some 13) (sel ((qp.tmod 6) == 3) (some 14) (sel ((qp.tmod 6) == 4) (some 16) (some 18)))))) = some (Xqi qp) := by
  unfold Xqi
  simp only [Ymq, beq_iff_eq]
  repeat' split
  all_goals rfl
 rw [hb, Xad]
 unfold Xn1 at h ⊢
 cases e : it (Xio qp) 10 (Xqi qp, 0) with
 | none => rw [e] at h; simp only at h; omega
 | some q => rw [Xh4.2 ⟨10, e⟩, Xad]
theorem Ylw : ∀ q : Fin 41, Xks (q.val : Int) = some (Xn1 (q.val : Int)) := by decide +kernel
theorem Yia (qp : Int) (h0 : 0 ≤ qp ∧ qp ≤ 40) : Xks qp = some (Xn1 qp) := by
 have := Ylw ⟨qp.toNat, by omega⟩
 simp only at this
 rwa [show ((qp.toNat : Nat) : Int) = qp by omega] at this
theorem Yng (qp : Int) (h0 : 0 ≤ qp ∧ qp ≤ 40) : Xks qp = Xg3 qp := by rw [Yia qp h0, Yjr qp h0]
theorem Xt2 (u v : Nat) (hu : u < 8) (hv : v < 8) : Xg2 u v = some (Xil u v) := by
 have h := Yuh ⟨u, hu⟩ ⟨v, hv⟩
 simp only at h
 unfold Xg2
 rw [Xak, Xad, decide_eq_true (by omega), Xaw, Xak, Xad, decide_eq_true (by omega), Bool.not_true, Xad, Xav]
 unfold Xil at h ⊢
 cases e : it Xim 10 (1, (IntKind.wrap .i64 (BitVec.ofInt (IntKind.bits .i64) (u : Int) &&& BitVec.ofInt (IntKind.bits .i64) (v : Int)).toNat)) with
 | none => rw [e] at h; simp only at h; omega
 | some q => rw [Xh4.2 ⟨10, e⟩, Xad]
theorem Ylv : ∀ u v : Fin 8, Xkr (u.val : Int) (v.val : Int) = some (Xil (u.val : Int) (v.val : Int)) := by decide +kernel
theorem Xzv (u v : Nat) (hu : u < 8) (hv : v < 8) : Xkr u v = some (Xil u v) := Ylv ⟨u, hu⟩ ⟨v, hv⟩
def Ymp (qp p : Int) : Option Int :=
 bnd (Xk8 p) fun q1 => bnd (Xbs q1 10 16 13) fun a1 => bnd (Xbs q1 11 18 14) fun a2 => bnd (Xbs q1 13 20 16) fun a3 => bnd (Xbs q1 14 23 18) fun a4 => bnd (Xbs q1 16 25 20) fun a5 => bnd (Xbs q1 18 29 23) fun a6 =>
 it (Xea qp) 10 ((sel (qp.tmod 6 == 0) a1 (sel (qp.tmod 6 == 1) a2 (sel (qp.tmod 6 == 2) a3 (sel (qp.tmod 6 == 3) a4 (sel (qp.tmod 6 == 4) a5 (sel (qp.tmod 6 == 5) a6 0)))))), 0)
theorem Yud : ∀ q : Fin 41, ∀ p : Fin 16, (Ymp (q.val : Int) (p.val : Int)).isSome = true ∧ Xlv (q.val : Int) (p.val : Int) = Ymp (q.val : Int) (p.val : Int) := by decide +kernel
theorem Yk0 (qp p : Int) (h0 : 0 ≤ qp ∧ qp ≤ 40) (hp : 0 ≤ p ∧ p ≤ 15) : Xlv qp p = Xg1 qp p := by
 have := Yud ⟨qp.toNat, by omega⟩ ⟨p.toNat, by omega⟩
 simp only at this
 rw [show ((qp.toNat : Nat) : Int) = qp by omega, show ((p.toNat : Nat) : Int) = p by omega] at this
 obtain ⟨h1, h2⟩ := this
 rw [h2]
 cases e : Ymp qp p with
 | none => rw [e] at h1; cases h1
 | some o =>
  unfold Ymp at e
  unfold Xg1
  obtain ⟨k, ek, k0, k1⟩ := Xt0 p hp
  rw [ek, Xad] at e ⊢
  rw [Xak, Xad, decide_eq_true h0, Xaw, decide_eq_false (by omega), Xad, Xav, Xai (by omega)]
  obtain ⟨a1, e1, b1⟩ := Xbp k 10 16 13
  obtain ⟨a2, e2, b2⟩ := Xbp k 11 18 14
  obtain ⟨a3, e3, b3⟩ := Xbp k 13 20 16
  obtain ⟨a4, e4, b4⟩ := Xbp k 14 23 18
  obtain ⟨a5, e5, b5⟩ := Xbp k 16 25 20
  obtain ⟨a6, e6, b6⟩ := Xbp k 18 29 23
  rw [e1, e2, e3, e4, e5, e6] at e ⊢
  simp only [Xad, Yug] at e ⊢
  rw [Yp4 10 e, Xad]
def Xpk (n : Int) (v16 : Int × List Int) : Option (Lp (Int × List Int) (List Int)) :=
 sel (decide (v16.1 ≤ (Xaa .i64 ((Xaa .i64 (2 * n)) - 2)))) (
 bnd (it (Xjy n v16) 20 (0, v16.2)) fun v42 =>
 some (.go (Xaa .i64 (v16.1 + 1), v42))) (
 some (.done v16.2))
theorem Yo6 {n : Int} {v : Int × List Int} {x : Lp (Int × List Int) (List Int)} (h : Xpk n v = some x) : Xgl n v = some x := by
 unfold Xpk at h
 unfold Xgl
 rcases Xqf h with ⟨hb, h⟩ | ⟨hb, h⟩
 ·
  rw [hb, Xaw]
  obtain ⟨a, h1, h2⟩ := Xa6 h
  rw [Xh4.2 ⟨20, h1⟩, Xad]
  exact h2
 ·
  rw [hb, Xav]; exact h
def Yi1 (n : Int) : List Int := (it (Xpk n) 20 (0, [])).getD []
theorem Yxy : (it (Xpk 4) 20 (0, [])).isSome = true ∧ (Yi1 4).length = 16 := by decide +kernel
theorem Yxz : (it (Xpk 8) 20 (0, [])).isSome = true ∧ (Yi1 8).length = 64 := by decide +kernel
theorem Yue : ∀ i : Fin 16, (Yi1 4).getD i.val 0 = Xgv 4 (i.val : Int) := by decide +kernel
theorem Yuf : ∀ i : Fin 64, (Yi1 8).getD i.val 0 = Xgv 8 (i.val : Int) := by decide +kernel
theorem Xyf (n : Int) (hn : n = 4 ∨ n = 8) : Xic n = some (Yi1 n) ∧ ((Yi1 n).length : Int) = n * n ∧ ∀ i : Nat, (i : Int) < n * n → (Yi1 n).getD i 0 = Xgv n i := by
 have h : (it (Xpk n) 20 (0, [])).isSome = true ∧ ((Yi1 n).length : Int) = n * n := by
  rcases hn with rfl | rfl
  ·
   have := Yxy; exact ⟨this.1, by omega⟩
  ·
   have := Yxz; exact ⟨this.1, by omega⟩
 refine ⟨?_, h.2, fun i hi => ?_⟩
 ·
  obtain ⟨o, ho⟩ := Option.isSome_iff_exists.1 h.1
  have hl := Yp4 20 (Yvm (fun v y => Yo6 (n := n)) 20 _ ho)
  unfold Xic
  rw [hl, Xad]
  unfold Yi1; rw [ho]; rfl
 ·
  rcases hn with rfl | rfl
  ·
   exact Yue ⟨i, by omega⟩
  ·
   exact Yuf ⟨i, by omega⟩
theorem Xrb (n : Int) (hn : n = 4 ∨ n = 8) (l : List Int) (hl : (l.length : Int) = n * n) : Xet n l = Xc3 n l := by
 obtain ⟨e, h1, h2⟩ := Xyf n hn
 have hw : Xaa .i64 (n * n) = n * n := by rcases hn with rfl | rfl <;> exact wk (by omega) (by omega)
 have hn2 : n * n ≤ 64 := by rcases hn with rfl | rfl <;> omega
 unfold Xet Xc3
 rw [e]
 have : loop (Xhl l (Yi1 n)) (0, List.replicate (l.length : Int).toNat 0) = loop (Xb9 n l) (0, List.replicate (l.length : Int).toNat 0) := by
  refine Xyy (fun v => (∃ i : Nat, v.1 = (i : Int) ∧ i ≤ l.length) ∧ v.2.length = l.length) ?_ ?_ ⟨⟨0, rfl, by omega⟩, by simp⟩
  ·
   intro ⟨i, s⟩ ⟨⟨k, ek, hk⟩, hs⟩
   simp only at hs ek
   subst ek
   unfold Xhl Xb9
   simp only [Int.toNat_natCast]
   rw [hw]
   by_cases hi : (k : Int) < n * n
   ·
    have hp := Xoc n hn k hi
    have h3 := h2 k hi
    simp only [h3]
    rw [Xaj (by omega), Xaj hi, Xor n hn k hi, Xad, Xai (by omega), Xai (by omega)]
   ·
    rw [Xam (by omega), Xam hi]
  ·
   intro ⟨i, s⟩ v' ⟨⟨k, ek, hk⟩, hs⟩ he
   simp only at hs ek
   subst ek
   unfold Xb9 at he
   simp only [Int.toNat_natCast] at he
   rw [hw] at he
   by_cases hi : (k : Int) < n * n
   ·
    have hp := Xoc n hn k hi
    rw [Xaj hi, Xor n hn k hi, Xad, Xai (by omega), Xai (by omega), Xai (by omega), wk (by omega) (by omega)] at he
    cases he
    exact ⟨⟨k + 1, rfl, by omega⟩, by rw [List.length_set]; exact hs⟩
   ·
    rw [Xam hi] at he; cases he
 simp only [Xad, this]
def Ym9 (t : Nat → Int) : Nat → Int
 | 0 => 0
 | k + 1 => Xaa .i64 (Ym9 t k + t k)
def Yxu (p : List Int) (i v k : Nat) : Int := Xaa .i64 (Xil v k * p.getD (8 * i + k) 0)
def Yxd (p : List Int) (u v k : Nat) : Int := Xaa .i64 (Xil u k * p.getD (8 * k + v) 0)
def Xrf (p : List Int) : List Int := (List.range 64).map fun j => Ym9 (Yxu p (j / 8) (j % 8)) 8
def Ysr (p : List Int) : List Int := (List.range 64).map fun j => Ym9 (Yxd (Xrf p) (j / 8) (j % 8)) 8
theorem Yn3 (p : List Int) : (Xrf p).length = 64 := by simp [Xrf]
theorem Yun (p : List Int) : (Ysr p).length = 64 := by simp [Ysr]
theorem Ypd {f1 : Int × List Int → Option (Lp (Int × List Int) (List Int))} {f2 : Int × List Int → Int × List Int → Option (Lp (Int × List Int) (List Int))} {f3 : Int × List Int → Int × List Int → Int × List Int → Option (Lp (Int × List Int) (List Int))} (t : Nat → Nat → Nat → Int)
  (h1 : ∀ v, f1 v = sel (decide (v.1 < 8)) (bnd (loop (f2 v) (0, v.2)) fun w => some (.go (Xaa .i64 (v.1 + 1), w))) (some (.done v.2)))
  (h2 : ∀ v w, f2 v w = sel (decide (w.1 < 8)) (bnd (loop (f3 v w) (0, w.2)) fun x => some (.go (Xaa .i64 (w.1 + 1), x))) (some (.done w.2)))
  (h3 : ∀ (i v k : Nat) (a b s : List Int), i < 8 → v < 8 → k < 8 → s.length = 64 → f3 ((i : Int), a) ((v : Int), b) ((k : Int), s) = some (.go (((k + 1 : Nat) : Int), s.set (8 * i + v) (Xaa .i64 (s.getD (8 * i + v) 0 + t i v k)))))
  (h4 : ∀ (i v : Nat) (a b s : List Int), f3 ((i : Int), a) ((v : Int), b) (8, s) = some (.done s)) : loop f1 (0, List.replicate 64 0) = some ((List.range 64).map fun j => Ym9 (t (j / 8) (j % 8)) 8) := by
 obtain ⟨o, e, o1, o2, _⟩ := Xh3 (f := f1) 8 (fun i s => s.length = 64 ∧ (∀ j, j < 8 * i → s.getD j 0 = Ym9 (t (j / 8) (j % 8)) 8) ∧ ∀ j, 8 * i ≤ j → s.getD j 0 = 0) (by
  intro i s hi ⟨g1, g2, g3⟩
  obtain ⟨r, er, r1, r2, r3⟩ := Xh3 (f := f2 ((i : Int), s)) 8 (fun v s => s.length = 64 ∧ (∀ j, j < 8 * i + v → s.getD j 0 = Ym9 (t (j / 8) (j % 8)) 8) ∧ ∀ j, 8 * i + v ≤ j → s.getD j 0 = 0) (by
   intro v s' hv ⟨k1, k2, k3⟩
   obtain ⟨q, eq, q1, q2, q3⟩ := Xh3 (f := f3 ((i : Int), s) ((v : Int), s')) 8 (fun k s => s.length = 64 ∧ (∀ j, j ≠ 8 * i + v → s.getD j 0 = s'.getD j 0) ∧ s.getD (8 * i + v) 0 = Ym9 (t i v) k) (by
    intro k s'' hk ⟨m1, m2, m3⟩
    refine ⟨_, h3 i v k s s' s'' hi hv hk m1, by rw [List.length_set]; exact m1, fun j hj => ?_, ?_⟩
    ·
     rw [Xfq _ _ _ _ (by omega), if_neg (fun h => hj h.symm)]; exact m2 j hj
    ·
     rw [Xfq _ _ _ _ (by omega), if_pos rfl, m3]; rfl) (fun z _ => h4 i v s s' z) s' ⟨k1, fun _ _ => rfl, by rw [k3 _ (Nat.le_refl _)]; rfl⟩
   refine ⟨q, by rw [h2, Xaj (by simp only; omega), eq, Xad, wk (by simp only; omega) (by simp only; omega)]; rfl, q1, fun j hj => ?_, fun j hj => ?_⟩
   ·
    by_cases h : j = 8 * i + v
    ·
     rw [h, q3, show (8 * i + v) / 8 = i by omega, show (8 * i + v) % 8 = v by omega]
    ·
     rw [q2 j h]; exact k2 j (by omega)
   ·
    rw [q2 j (by omega)]; exact k3 j (by omega)) (fun z _ => by rw [h2, Xam (by simp)]) s ⟨g1, g2, g3⟩
  refine ⟨r, by rw [h1, Xaj (by simp only; omega), er, Xad, wk (by simp only; omega) (by simp only; omega)]; rfl, r1, fun j hj => r2 j (by omega), fun j hj => r3 j (by omega)⟩) (fun z _ => by rw [h1, Xam (by simp)]) (List.replicate 64 0) ⟨by simp, fun j hj => by omega, fun j _ => by
   by_cases h : j < 64
   ·
    rw [Xce _ _ (by rw [List.length_replicate]; exact h)]; exact List.getElem_replicate ..
   ·
    rw [List.getD_eq_getElem?_getD, List.getElem?_eq_none (by rw [List.length_replicate]; omega)]; rfl⟩
 rw [e]
 congr 1
 exact Yfh o1 (by simp) fun j hj => by rw [o2 j (by omega), Xjl (fun j => Ym9 (t (j / 8) (j % 8)) 8) hj]
theorem Yob (p : List Int) (hp : p.length = 64) : Xrl p = some (Ysr p) := by
 unfold Xrl
 rw [Xai (by omega)]
 have e1 : loop (Xp6 p) (0, List.replicate (64 : Int).toNat 0) = some (Xrf p) :=
  Ypd (f2 := Xp7 p) (f3 := Xj0 p) (fun i v k => Yxu p i v k) (fun _ => rfl) (fun _ _ => rfl) (fun i v k a b s hi hv hk hs => by
   unfold Xj0
   simp only
   rw [Xaj (by omega), wk (e := 8 * (i : Int)) (by omega) (by omega), wk (e := 8 * (i : Int) + (v : Int)) (by omega) (by omega), wk (e := 8 * (i : Int) + (k : Int)) (by omega) (by omega), Xai (by omega), Xai (by omega), Xzv v k hv hk, Xad, Xai (by omega), Xai (by omega), Xai (by omega), wk (e := (k : Int) + 1) (by omega) (by omega), show (8 * (i : Int) + (v : Int)).toNat = 8 * i + v by omega, show (8 * (i : Int) + (k : Int)).toNat = 8 * i + k by omega]
   rfl) (fun i v a b s => by unfold Xj0; rw [Xam (by simp)])
 have e2 : loop (Xol (Xrf p)) (0, List.replicate (64 : Int).toNat 0) = some (Ysr p) :=
  Ypd (f2 := Xom (Xrf p)) (f3 := Xid (Xrf p)) (fun i v k => Yxd (Xrf p) i v k) (fun _ => rfl) (fun _ _ => rfl) (fun i v k a b s hi hv hk hs => by
   have hl := Yn3 p
   unfold Xid
   simp only
   rw [Xaj (by omega), wk (e := 8 * (i : Int)) (by omega) (by omega), wk (e := 8 * (i : Int) + (v : Int)) (by omega) (by omega), wk (e := 8 * (k : Int)) (by omega) (by omega), wk (e := 8 * (k : Int) + (v : Int)) (by omega) (by omega), Xai (by omega), Xai (by omega), Xzv i k hi hk, Xad, Xai (by omega), Xai (by omega), Xai (by omega), Xai (by omega), wk (e := (k : Int) + 1) (by omega) (by omega), show (8 * (i : Int) + (v : Int)).toNat = 8 * i + v by omega, show (8 * (k : Int) + (v : Int)).toNat = 8 * k + v by omega]
   rfl) (fun i v a b s => by unfold Xid; rw [Xam (by simp)])
 rw [e1, Xad, Xai (by omega), e2, Xad]
theorem Yj2 (p : List Int) (hp : p.length = 64) (i v : Nat) (hi : i < 8) (hv : v < 8) : Xi2 p i v = some (Ym9 (Yxu p i v) 8) := by
 obtain ⟨o, e, h⟩ := Xn2 (f := Xdz p i v) 8 (fun k s => s = Ym9 (Yxu p i v) k) (by
  intro k s hk g
  subst g
  unfold Xdz
  simp only
  rw [Xaj (by omega), wk (e := 8 * (i : Int)) (by omega) (by omega), wk (e := 8 * (i : Int) + (k : Int)) (by omega) (by omega), Xai (by omega), Xt2 v k hv hk, Xad, wk (e := (k : Int) + 1) (by omega) (by omega), show (8 * (i : Int) + (k : Int)).toNat = 8 * i + k by omega, Int.mul_comm (p.getD _ _)]
  exact ⟨_, rfl, rfl⟩) (by intro s; unfold Xdz; rw [Xam (by simp)]) 0 rfl
 unfold Xi2
 rw [e, Xad, h]
theorem Yg5 (p : List Int) (hp : p.length = 64) : Xg8 p = some (Ysr p) := by
 have hm : maxLen = 9223372036854775807 := rfl
 unfold Xg8
 obtain ⟨o, e, ho⟩ := Xe2 (f := Xcs p) 8 (fun i s => s = (List.range (8 * i)).map fun j => Ym9 (Yxu p (j / 8) (j % 8)) 8) (by
  intro i s hi g
  subst g
  obtain ⟨r, er, hr⟩ := Xe2 (f := Xct p ((i : Int), (List.range (8 * i)).map fun j => Ym9 (Yxu p (j / 8) (j % 8)) 8)) 8 (fun v s => s = (List.range (8 * i + v)).map fun j => Ym9 (Yxu p (j / 8) (j % 8)) 8) (by
   intro v s hv g
   subst g
   unfold Xct
   simp only
   rw [Xaj (by omega), Yj2 p hp i v hi hv, Xad, Xai (by simp only [List.length_singleton, List.length_map, List.length_range]; omega), wk (e := (v : Int) + 1) (by omega) (by omega)]
   refine ⟨_, rfl, ?_⟩
   rw [show 8 * i + (v + 1) = (8 * i + v) + 1 by omega, List.range_succ, List.map_append, List.map_singleton, show (8 * i + v) / 8 = i by omega, show (8 * i + v) % 8 = v by omega]) (by intro s; unfold Xct; rw [Xam (by simp)]) _ rfl
  rw [Nat.add_zero] at er
  unfold Xcs
  simp only
  rw [Xaj (by omega), er, Xad, wk (e := (i : Int) + 1) (by omega) (by omega)]
  exact ⟨_, rfl, by rw [hr, show 8 * (i + 1) = 8 * i + 8 by omega]⟩) (by intro s; unfold Xcs; rw [Xam (by simp)]) [] rfl
 have ho' : o = Xrf p := by rw [ho]; rfl
 rw [e, Xad, ho']
 obtain ⟨o2, e2, ho2⟩ := Xe2 (f := Xca (Xrf p)) 8 (fun i s => s = (List.range (8 * i)).map fun j => Ym9 (Yxd (Xrf p) (j / 8) (j % 8)) 8) (by
  intro i s hi g
  subst g
  obtain ⟨r, er, hr⟩ := Xe2 (f := Xcb (Xrf p) ((i : Int), (List.range (8 * i)).map fun j => Ym9 (Yxd (Xrf p) (j / 8) (j % 8)) 8)) 8 (fun v s => s = (List.range (8 * i + v)).map fun j => Ym9 (Yxd (Xrf p) (j / 8) (j % 8)) 8) (by
   intro v s hv g
   obtain ⟨c, ec, hc⟩ := Xn2 (f := Xcc (Xrf p) ((i : Int), (List.range (8 * i)).map fun j => Ym9 (Yxd (Xrf p) (j / 8) (j % 8)) 8) ((v : Int), s)) 8 (fun k x => x = Ym9 (Yxd (Xrf p) i v) k) (by
    intro k x hk g
    subst g
    have hl := Yn3 p
    unfold Xcc
    simp only
    rw [Xaj (by omega), Xt2 i k hi hk, Xad, wk (e := 8 * (k : Int)) (by omega) (by omega), wk (e := 8 * (k : Int) + (v : Int)) (by omega) (by omega), Xai (by omega), Xai (by omega), wk (e := (k : Int) + 1) (by omega) (by omega), show (8 * (k : Int) + (v : Int)).toNat = 8 * k + v by omega]
    exact ⟨_, rfl, rfl⟩) (by intro s; unfold Xcc; rw [Xam (by simp)]) 0 rfl
   subst g
   unfold Xcb
   simp only
   rw [Xaj (by omega), ec, Xad, Xai (by simp only [List.length_singleton, List.length_map, List.length_range]; omega), wk (e := (v : Int) + 1) (by omega) (by omega)]
   refine ⟨_, rfl, ?_⟩
   rw [hc, show 8 * i + (v + 1) = (8 * i + v) + 1 by omega, List.range_succ, List.map_append, List.map_singleton, show (8 * i + v) / 8 = i by omega, show (8 * i + v) % 8 = v by omega]) (by intro s; unfold Xcb; rw [Xam (by simp)]) _ rfl
  rw [Nat.add_zero] at er
  unfold Xca
  simp only
  rw [Xaj (by omega), er, Xad, wk (e := (i : Int) + 1) (by omega) (by omega)]
  exact ⟨_, rfl, by rw [hr, show 8 * (i + 1) = 8 * i + 8 by omega]⟩) (by intro s; unfold Xca; rw [Xam (by simp)]) [] rfl
 rw [e2, Xad, ho2]
 rfl
theorem Ydf (l : List Int) (n B : Int) (hn : (l.length : Int) = n) (hn2 : n ≤ 1000000) (h : inB B l) : Xd1 l n (-B) B = some true := by
 rw [Xmw l n (-B) B (by omega), hn, beq_self_eq_true, Bool.and_true]
 congr 1
 rw [List.all_eq_true]
 intro x hx
 rw [decide_eq_true_eq]; exact h x hx
theorem Xwy (o : List Int) {f : Int × List Int → Option (Lp (Int × List Int) (List Int))} (n : Nat) (hn : n ≤ 64) (hl : o.length = n) (hf : ∀ v : Int × List Int, f v = sel (decide (v.1 < (n : Int))) (req (0 ≤ v.1 ∧ v.1 < v.2.length) <| req (v.1.toNat < v.2.length) <| bnd (Xcr (Xaa .i64 ((v.2.getD v.1.toNat 0) + 32)) 64) fun q => req (0 ≤ v.1 ∧ v.1 < v.2.length) <| req (v.1.toNat < v.2.length) <| some (.go (Xaa .i64 (v.1 + 1), (v.2.set v.1.toNat q)))) (some (.done v.2))) : bnd (Xjb o) (fun q => some q.2) = bnd (loop f (0, o)) fun q => some q := by
 unfold Xjb
 have : Xnh o = f := by
  funext v
  rw [hf, ← hl]; rfl
 rw [this]
 cases loop f (0, o) <;> rfl
theorem Yc8 (p : List Int) (hl : p.length = 64) (hb : inB 10000000 p) : Xh8 p = Xex p := by
 unfold Xh8 Xex
 rw [Ydf p 64 10000000 (by omega) (by omega) hb, Xjc p 64 10000000 (by omega) (by omega) (by omega) hb, Xad, Xad, Bool.not_true, Xav, Xav, Yob p hl, Yg5 p hl, Xad, Xad]
 exact Xwy (Ysr p) 64 (by omega) (Yun p) (fun _ => rfl)
def tgA (q : Int → Int → Int → Int → Option (Int × Int × Int × Int)) (v4 : (Int × (List Int))) : Option (Lp (Int × (List Int)) (List Int)) :=
 sel (decide (v4.1 < 16)) (
 req (0 ≤ v4.1 ∧ v4.1 < v4.2.length) <|
 req (v4.1.toNat < v4.2.length) <|
 req (0 ≤ (Xaa .i64 (v4.1 + 1)) ∧ (Xaa .i64 (v4.1 + 1)) < v4.2.length) <|
 req ((Xaa .i64 (v4.1 + 1)).toNat < v4.2.length) <|
 req (0 ≤ (Xaa .i64 (v4.1 + 2)) ∧ (Xaa .i64 (v4.1 + 2)) < v4.2.length) <|
 req ((Xaa .i64 (v4.1 + 2)).toNat < v4.2.length) <|
 req (0 ≤ (Xaa .i64 (v4.1 + 3)) ∧ (Xaa .i64 (v4.1 + 3)) < v4.2.length) <|
 req ((Xaa .i64 (v4.1 + 3)).toNat < v4.2.length) <|
 bnd (q (v4.2.getD v4.1.toNat 0) (v4.2.getD ((Xaa .i64 (v4.1 + 1)).toNat) 0) (v4.2.getD ((Xaa .i64 (v4.1 + 2)).toNat) 0) (v4.2.getD ((Xaa .i64 (v4.1 + 3)).toNat) 0)) fun q8 =>
 req (0 ≤ v4.1 ∧ v4.1 ≤ (Xaa .i64 (v4.1 + 4)) ∧ (Xaa .i64 (v4.1 + 4)) ≤ (v4.2.length : Int)) <|
 req ((v4.1.toNat + ((Xaa .i64 (v4.1 + 4)).toNat - v4.1.toNat) ≤ v4.2.length ∧ ([q8.1, q8.2.1, q8.2.2.1, q8.2.2.2]).length ≤ ((Xaa .i64 (v4.1 + 4)).toNat - v4.1.toNat))) <|
 some (.go (Xaa .i64 (v4.1 + 4), (over v4.2 v4.1.toNat ([q8.1, q8.2.1, q8.2.2.1, q8.2.2.2]))))) (
 some (.done v4.2))
def tgB (v17 : (Int × (List Int))) (q26 : (Int × Int × Int × Int)) (v28 : (Int × (List Int))) : Option (Lp (Int × (List Int)) (List Int)) :=
 sel (decide (v28.1 < 4)) (
 req (0 ≤ v28.1 ∧ v28.1 < ([q26.1, q26.2.1, q26.2.2.1, q26.2.2.2] : List Int).length) <|
 req (0 ≤ (Xaa .i64 (v17.1 + (Xaa .i64 (4 * v28.1)))) ∧ (Xaa .i64 (v17.1 + (Xaa .i64 (4 * v28.1)))) < v28.2.length) <|
 req ((Xaa .i64 (v17.1 + (Xaa .i64 (4 * v28.1)))).toNat < v28.2.length) <|
 some (.go (Xaa .i64 (v28.1 + 1), (v28.2.set ((Xaa .i64 (v17.1 + (Xaa .i64 (4 * v28.1)))).toNat) (([q26.1, q26.2.1, q26.2.2.1, q26.2.2.2] : List Int).getD v28.1.toNat 0))))) (
 some (.done v28.2))
noncomputable def tgC (q : Int → Int → Int → Int → Option (Int × Int × Int × Int)) (v17 : (Int × (List Int))) : Option (Lp (Int × (List Int)) (List Int)) :=
 sel (decide (v17.1 < 4)) (
 req (0 ≤ v17.1 ∧ v17.1 < v17.2.length) <|
 req (v17.1.toNat < v17.2.length) <|
 req (0 ≤ (Xaa .i64 (v17.1 + 4)) ∧ (Xaa .i64 (v17.1 + 4)) < v17.2.length) <|
 req ((Xaa .i64 (v17.1 + 4)).toNat < v17.2.length) <|
 req (0 ≤ (Xaa .i64 (v17.1 + 8)) ∧ (Xaa .i64 (v17.1 + 8)) < v17.2.length) <|
 req ((Xaa .i64 (v17.1 + 8)).toNat < v17.2.length) <|
 req (0 ≤ (Xaa .i64 (v17.1 + 12)) ∧ (Xaa .i64 (v17.1 + 12)) < v17.2.length) <|
 req ((Xaa .i64 (v17.1 + 12)).toNat < v17.2.length) <|
 bnd (q (v17.2.getD v17.1.toNat 0) (v17.2.getD ((Xaa .i64 (v17.1 + 4)).toNat) 0) (v17.2.getD ((Xaa .i64 (v17.1 + 8)).toNat) 0) (v17.2.getD ((Xaa .i64 (v17.1 + 12)).toNat) 0)) fun q26 =>
 bnd (loop (tgB v17 q26) (0, v17.2)) fun v30 =>
 some (.go (Xaa .i64 (v17.1 + 1), v30))) (
 some (.done v17.2))
noncomputable def Yyd (q : Int → Int → Int → Int → Option (Int × Int × Int × Int)) (p0 : (List Int)) : Option (List Int) :=
 bnd (Xen p0) fun q1 =>
 bnd (loop (tgA q) (0, q1)) fun v7 =>
 bnd (loop (tgC q) (0, v7)) fun v25 =>
 some v25
theorem Yuq : Xcj = Yyd Xd3 := rfl
abbrev Q4 := Int × Int × Int × Int
def Yov (q : Q4) (i : Nat) : Int := [q.1, q.2.1, q.2.2.1, q.2.2.2].getD i 0
def Xuz (t : Int → Int → Int → Int → Q4) (p : List Int) : List Int := (List.range 16).map fun j => Yov (t (p.getD (4 * (j / 4)) 0) (p.getD (4 * (j / 4) + 1) 0) (p.getD (4 * (j / 4) + 2) 0) (p.getD (4 * (j / 4) + 3) 0)) (j % 4)
def Xvl (p : List Int) : List Int := (List.range 16).map fun j => p.getD (j % 4 * 4 + j / 4) 0
theorem Xwv (t : Int → Int → Int → Int → Q4) (p : List Int) : (Xuz t p).length = 16 := by simp [Xuz]
theorem Xvm (p : List Int) : (Xvl p).length = 16 := by simp [Xvl]
theorem Yot {l m : List Int} {i : Nat} (h : i + m.length ≤ l.length) (j : Nat) : (over l i m).getD j 0 = if i ≤ j ∧ j < i + m.length then m.getD (j - i) 0 else l.getD j 0 := by
 rw [List.getD_eq_getElem?_getD, Yc5 h]
 split <;> rw [List.getD_eq_getElem?_getD]
theorem Ywn {q : Int → Int → Int → Int → Option Q4} {t : Int → Int → Int → Int → Q4} (hq : ∀ a b c d, q a b c d = some (t a b c d)) (p : List Int) (hp : p.length = 16) : Yyd q p = some (Xvl (Xuz t (Xvl (Xuz t p)))) := by
 have hm : maxLen = 9223372036854775807 := rfl
 unfold Yyd Xen
 rw [Xai (by simp only [List.length_nil]; omega), Xad, List.nil_append]
 have hA : loop (tgA q) (0, p) = some (Xuz t p) := by
  have key : ∀ r : Nat, r ≤ 4 → ∀ s : List Int, s.length = 16 → (∀ j, j < 4 * r → s.getD j 0 = (Xuz t p).getD j 0) → (∀ j, 4 * r ≤ j → s.getD j 0 = p.getD j 0) → loop (tgA q) (((4 * r : Nat) : Int), s) = some (Xuz t p) := by
   refine Xgo _ ?_ ?_
   ·
    intro s h1 h2 _
    refine Xck ?_
    unfold tgA
    rw [Xam (by simp), Yfh h1 (Xwv t p) h2]
   ·
    intro r hr ih s h1 h2 h3
    refine lgo (y := (((4 * (r + 1) : Nat) : Int), over s (4 * r) [Yov (t (p.getD (4 * r) 0) (p.getD (4 * r + 1) 0) (p.getD (4 * r + 2) 0) (p.getD (4 * r + 3) 0)) 0, Yov (t (p.getD (4 * r) 0) (p.getD (4 * r + 1) 0) (p.getD (4 * r + 2) 0) (p.getD (4 * r + 3) 0)) 1, Yov (t (p.getD (4 * r) 0) (p.getD (4 * r + 1) 0) (p.getD (4 * r + 2) 0) (p.getD (4 * r + 3) 0)) 2, Yov (t (p.getD (4 * r) 0) (p.getD (4 * r + 1) 0) (p.getD (4 * r + 2) 0) (p.getD (4 * r + 3) 0)) 3])) ?_ (ih _ ?_ ?_ ?_)
    ·
     unfold tgA
     simp only
     rw [Xaj (by omega), wk (e := ((4 * r : Nat) : Int) + 1) (by omega) (by omega), wk (e := ((4 * r : Nat) : Int) + 2) (by omega) (by omega), wk (e := ((4 * r : Nat) : Int) + 3) (by omega) (by omega), wk (e := ((4 * r : Nat) : Int) + 4) (by omega) (by omega)]
     rw [Xai (by omega), Xai (by omega), Xai (by omega), Xai (by omega), Xai (by omega), Xai (by omega), Xai (by omega), Xai (by omega), hq, Xad, Xai (by omega), Xai (by simp only [List.length_cons, List.length_nil]; omega)]
     rw [show (((4 * r : Nat) : Int) + 1).toNat = 4 * r + 1 by omega, show (((4 * r : Nat) : Int) + 2).toNat = 4 * r + 2 by omega, show (((4 * r : Nat) : Int) + 3).toNat = 4 * r + 3 by omega, Int.toNat_natCast, h3 _ (by omega), h3 _ (by omega), h3 _ (by omega), h3 _ (by omega)]
     rfl
    ·
     rw [Xqd (by simp only [List.length_cons, List.length_nil]; omega)]; exact h1
    ·
     intro j hj
     rw [Yot (by simp only [List.length_cons, List.length_nil]; omega)]
     simp only [List.length_cons, List.length_nil]
     by_cases h : 4 * r ≤ j
     ·
      rw [if_pos (by omega)]
      unfold Xuz
      rw [Xjl _ (by omega), show 4 * (j / 4) = 4 * r by omega]
      obtain h | h | h | h : j = 4 * r ∨ j = 4 * r + 1 ∨ j = 4 * r + 2 ∨ j = 4 * r + 3 := by omega
      ·
       rw [h, show 4 * r - 4 * r = 0 by omega, show (4 * r) % 4 = 0 by omega]; rfl
      ·
       rw [h, show 4 * r + 1 - 4 * r = 1 by omega, show (4 * r + 1) % 4 = 1 by omega]; rfl
      ·
       rw [h, show 4 * r + 2 - 4 * r = 2 by omega, show (4 * r + 2) % 4 = 2 by omega]; rfl
      ·
       rw [h, show 4 * r + 3 - 4 * r = 3 by omega, show (4 * r + 3) % 4 = 3 by omega]; rfl
     ·
      rw [if_neg (by omega)]; exact h2 j (by omega)
    ·
     intro j hj
     rw [Yot (by simp only [List.length_cons, List.length_nil]; omega), if_neg (by simp only [List.length_cons, List.length_nil]; omega)]
     exact h3 j (by omega)
  exact key 0 (by omega) p hp (fun j hj => by omega) fun _ _ => rfl
 rw [hA, Xad]
 generalize hR : Xuz t p = R
 have hl : R.length = 16 := by rw [← hR]; exact Xwv t p
 have hC : loop (tgC q) (0, R) = some (Xvl (Xuz t (Xvl R))) := by
  have at4 : ∀ j : Nat, j < 16 → (Xvl (Xuz t (Xvl R))).getD j 0 = Yov (t (R.getD (j % 4) 0) (R.getD (j % 4 + 4) 0) (R.getD (j % 4 + 8) 0) (R.getD (j % 4 + 12) 0)) (j / 4) := by
   intro j hj
   rw [Xvl, Xjl _ hj, Xuz, Xjl _ (by omega), Xvl, Xjl _ (by omega), Xjl _ (by omega), Xjl _ (by omega), Xjl _ (by omega)]
   rw [show (j % 4 * 4 + j / 4) / 4 = j % 4 by omega, show (j % 4 * 4 + j / 4) % 4 = j / 4 by omega, show 4 * (j % 4) % 4 * 4 + 4 * (j % 4) / 4 = j % 4 by omega, show (4 * (j % 4) + 1) % 4 * 4 + (4 * (j % 4) + 1) / 4 = j % 4 + 4 by omega, show (4 * (j % 4) + 2) % 4 * 4 + (4 * (j % 4) + 2) / 4 = j % 4 + 8 by omega, show (4 * (j % 4) + 3) % 4 * 4 + (4 * (j % 4) + 3) / 4 = j % 4 + 12 by omega]
  obtain ⟨o, e, o1, o2, _⟩ := Xh3 (f := tgC q) 4 (fun c s => s.length = 16 ∧ (∀ j, j < 16 → j % 4 < c → s.getD j 0 = (Xvl (Xuz t (Xvl R))).getD j 0) ∧ ∀ j, j < 16 → c ≤ j % 4 → s.getD j 0 = R.getD j 0) (by
   intro c s hc ⟨g1, g2, g3⟩
   obtain ⟨r, er, r1, r2, r3⟩ := Xh3 (f := tgB ((c : Int), s) (t (R.getD c 0) (R.getD (c + 4) 0) (R.getD (c + 8) 0) (R.getD (c + 12) 0))) 4 (fun i s' => s'.length = 16 ∧ (∀ j, j < 16 → j % 4 ≠ c → s'.getD j 0 = s.getD j 0) ∧ ∀ j, j < 16 → j % 4 = c → j / 4 < i → s'.getD j 0 = Yov (t (R.getD c 0) (R.getD (c + 4) 0) (R.getD (c + 8) 0) (R.getD (c + 12) 0)) (j / 4)) (by
    intro i s' hi ⟨k1, k2, k3⟩
    unfold tgB
    simp only
    rw [Xaj (by omega), Xai (by simp only [List.length_cons, List.length_nil]; omega), wk (e := 4 * (i : Int)) (by omega) (by omega), wk (e := (c : Int) + 4 * (i : Int)) (by omega) (by omega), Xai (by omega), Xai (by omega), wk (e := (i : Int) + 1) (by omega) (by omega), show ((c : Int) + 4 * (i : Int)).toNat = c + 4 * i by omega, Int.toNat_natCast]
    refine ⟨_, rfl, by rw [List.length_set]; exact k1, fun j hj hjc => ?_, fun j hj hjc hji => ?_⟩
    ·
     rw [Xfq _ _ _ _ (by omega), if_neg (by omega)]; exact k2 j hj hjc
    ·
     rw [Xfq _ _ _ _ (by omega)]
     by_cases h : c + 4 * i = j
     ·
      rw [if_pos h, show j / 4 = i by omega]; rfl
     ·
      rw [if_neg h]; exact k3 j hj hjc (by omega)) (fun z _ => by unfold tgB; rw [Xam (by simp)]) s ⟨g1, fun _ _ _ => rfl, fun j hj hjc hji => by omega⟩
   unfold tgC
   simp only
   rw [Xaj (by omega), wk (e := (c : Int) + 4) (by omega) (by omega), wk (e := (c : Int) + 8) (by omega) (by omega), wk (e := (c : Int) + 12) (by omega) (by omega), Xai (by omega), Xai (by omega), Xai (by omega), Xai (by omega), Xai (by omega), Xai (by omega), Xai (by omega), Xai (by omega), hq, Xad, show ((c : Int) + 4).toNat = c + 4 by omega, show ((c : Int) + 8).toNat = c + 8 by omega, show ((c : Int) + 12).toNat = c + 12 by omega, Int.toNat_natCast, g3 c (by omega) (by omega), g3 (c + 4) (by omega) (by omega), g3 (c + 8) (by omega) (by omega), g3 (c + 12) (by omega) (by omega), er, Xad, wk (e := (c : Int) + 1) (by omega) (by omega)]
   refine ⟨r, rfl, r1, fun j hj hjc => ?_, fun j hj hjc => ?_⟩
   ·
    by_cases h : j % 4 = c
    ·
     rw [r3 j hj h (by omega), at4 j hj, h]
    ·
     rw [r2 j hj h]; exact g2 j hj (by omega)
   ·
    rw [r2 j hj (by omega)]; exact g3 j hj (by omega)) (fun z _ => by unfold tgC; rw [Xam (by simp)]) R ⟨hl, fun j hj hjc => by omega, fun _ _ _ => rfl⟩
  rw [e]
  congr 1
  exact Yfh o1 (Xvm _) fun j hj => o2 j hj (by omega)
 rw [hC, Xad]
theorem Xr5 (p : List Int) (hl : p.length = 16) : Xfo p = some (Xvl p) := by
 unfold Xfo
 rw [Xai (by omega)]
 obtain ⟨o, e, o1, o2⟩ := Xh3 (f := Xdd p) 16 (fun i s => s.length = 16 ∧ ∀ j, j < 16 → j % 4 * 4 + j / 4 < i → s.getD j 0 = p.getD (j % 4 * 4 + j / 4) 0) (by
  intro i s hi ⟨g1, g2⟩
  unfold Xdd
  simp only
  rw [Xaj (by omega), Xai (by omega), Xai (by omega), Xai (by omega), Xcd (by omega), Xbl (by omega), wk (e := (i : Int) / 4) (by omega) (by omega), wk (e := (i : Int) % 4 * 4) (by omega) (by omega), wk (e := (i : Int) % 4 * 4 + (i : Int) / 4) (by omega) (by omega), Xai (by omega), Xai (by omega), wk (e := (i : Int) + 1) (by omega) (by omega), Int.toNat_natCast, show ((i : Int) % 4 * 4 + (i : Int) / 4).toNat = i % 4 * 4 + i / 4 by omega]
  refine ⟨_, rfl, by rw [List.length_set]; exact g1, fun j hj hji => ?_⟩
  rw [Xfq _ _ _ _ (by omega)]
  by_cases h : i % 4 * 4 + i / 4 = j
  ·
   rw [if_pos h, show j % 4 * 4 + j / 4 = i by omega]
  ·
   rw [if_neg h]; exact g2 j hj (by omega)) (fun z _ => by unfold Xdd; rw [Xam (by simp)]) (List.replicate (16 : Int).toNat 0) ⟨by simp, fun j hj h => by omega⟩
 rw [e, Xad]
 congr 1
 exact Yfh o1 (Xvm p) fun j hj => by rw [o2 j hj (by omega), Xvl, Xjl _ hj]
theorem Yua {f : Int × List Int → Option (Lp (Int × List Int) (List Int))} {t : Int → Int → Int → Int → Q4} (p : List Int) (h : ∀ (i : Nat) (s : List Int), i < 4 → s.length = 4 * i → f ((i : Int), s) = some (.go (((i + 1 : Nat) : Int), s ++ [(t (p.getD (4 * i) 0) (p.getD (4 * i + 1) 0) (p.getD (4 * i + 2) 0) (p.getD (4 * i + 3) 0)).1, (t (p.getD (4 * i) 0) (p.getD (4 * i + 1) 0) (p.getD (4 * i + 2) 0) (p.getD (4 * i + 3) 0)).2.1, (t (p.getD (4 * i) 0) (p.getD (4 * i + 1) 0) (p.getD (4 * i + 2) 0) (p.getD (4 * i + 3) 0)).2.2.1, (t (p.getD (4 * i) 0) (p.getD (4 * i + 1) 0) (p.getD (4 * i + 2) 0) (p.getD (4 * i + 3) 0)).2.2.2]))) (he : ∀ s, f (4, s) = some (.done s)) : loop f (0, []) = some (Xuz t p) := by
 obtain ⟨o, e, ho⟩ := Xh3 (f := f) 4 (fun i s => s = (List.range (4 * i)).map fun j => Yov (t (p.getD (4 * (j / 4)) 0) (p.getD (4 * (j / 4) + 1) 0) (p.getD (4 * (j / 4) + 2) 0) (p.getD (4 * (j / 4) + 3) 0)) (j % 4)) (by
  intro i s hi g
  refine ⟨_, h i s hi (by rw [g]; simp), ?_⟩
  rw [g, show 4 * (i + 1) = 4 * i + 1 + 1 + 1 + 1 by omega]
  simp only [List.range_succ, List.map_append, List.map_singleton, List.append_assoc]
  rw [show (4 * i + 1 + 1 + 1) / 4 = i by omega, show (4 * i + 1 + 1) / 4 = i by omega, show (4 * i + 1) / 4 = i by omega, show 4 * i / 4 = i by omega, show (4 * i + 1 + 1 + 1) % 4 = 3 by omega, show (4 * i + 1 + 1) % 4 = 2 by omega, show (4 * i + 1) % 4 = 1 by omega, show 4 * i % 4 = 0 by omega]
  rfl) (fun z _ => he z) [] rfl
 rw [e, ho]; rfl
def Ykc (a b : Int) : Int := Xaa .i64 (if a.tmod b < 0 then Xaa .i64 (a.tdiv b) - 1 else a.tdiv b)
theorem Xsl (a b : Int) (hb : b ≠ 0) : Xcr a b = some (Ykc a b) := by
 unfold Xcr Ykc
 rw [Xai hb, Xai hb, Yi2]
 split <;> rfl
def t4B (a b c d : Int) : Q4 := (Xaa .i64 ((Xaa .i64 (a + c)) + (Xaa .i64 (b + Ykc d 2))), Xaa .i64 ((Xaa .i64 (a - c)) + (Xaa .i64 (Ykc b 2 - d))), Xaa .i64 ((Xaa .i64 (a - c)) - (Xaa .i64 (Ykc b 2 - d))), Xaa .i64 ((Xaa .i64 (a + c)) - (Xaa .i64 (b + Ykc d 2))))
theorem Xvq (a b c d : Int) : Xd3 a b c d = some (t4B a b c d) := by
 unfold Xd3
 rw [Ypw, Xsl b 2 (by omega), Xsl d 2 (by omega), Xad, Xad]; rfl
theorem Xqv (p : List Int) (hl : p.length = 16) : Xer p = some (Xuz t4B p) := by
 have hm : maxLen = 9223372036854775807 := rfl
 unfold Xer
 rw [Yua (f := Xcq p) (t := t4B) p (by
  intro i s hi hs
  unfold Xcq
  simp only
  rw [Xaj (by omega), wk (e := 4 * (i : Int)) (by omega) (by omega), wk (e := 4 * (i : Int) + 1) (by omega) (by omega), wk (e := 4 * (i : Int) + 2) (by omega) (by omega), wk (e := 4 * (i : Int) + 3) (by omega) (by omega), Xai (by omega), Xai (by omega), Xai (by omega), Xai (by omega), show (4 * (i : Int)).toNat = 4 * i by omega, show (4 * (i : Int) + 1).toNat = 4 * i + 1 by omega, show (4 * (i : Int) + 2).toNat = 4 * i + 2 by omega, show (4 * (i : Int) + 3).toNat = 4 * i + 3 by omega, Xsl _ 2 (by omega), Xad, Xsl _ 2 (by omega), Xad, wk (e := (i : Int) + 1) (by omega) (by omega), Xai (by simp only [List.length_cons, List.length_nil]; omega)]
  rfl) (by intro s; unfold Xcq; rw [Xam (by simp)]), Xad]
theorem Yhn (p : List Int) (hl : p.length = 16) (hb : inB 10000000 p) : Xjp p = Xfv p := by
 unfold Xjp Xfv
 rw [Ydf p 16 10000000 (by omega) (by omega) hb, Xjc p 16 10000000 (by omega) (by omega) (by omega) hb, Xad, Xad, Bool.not_true, Xav, Xav, Yuq, Ywn Xvq p hl, Xqv p hl, Xad, Xad, Xr5 _ (Xwv _ _), Xad, Xqv _ (Xvm _), Xad, Xr5 _ (Xwv _ _), Xad]
 exact Xwy _ 16 (by omega) (Xvm _) (fun _ => rfl)
theorem Ymj {β : Type} {c : Prop} [Decidable c] {k k' : Option β} (h : c → k = k') : req c k = req c k' := by
 by_cases hc : c
 ·
  rw [Xai hc, Xai hc, h hc]
 ·
  unfold req; rw [if_neg hc, if_neg hc]
theorem Xtw {β : Type} {c : Prop} [Decidable c] {k k' : Option β} (h0 : c) (h : k = k') : req c k = k' := by rw [Xai h0, h]
theorem Yqd {β : Type} {b : Bool} {x x' y y' : β} (h : b = true → x = x') (h2 : b = false → y = y') : sel b x y = sel b x' y' := by
 cases b
 ·
  exact h2 rfl
 ·
  exact h rfl
theorem Yxa {α β : Type} {x x' : Option α} {f f' : α → Option β} (h : x = x') (h2 : ∀ a, x' = some a → f a = f' a) : bnd x f = bnd x' f' := by
 subst h
 cases x with
 | none => rfl
 | some a => exact h2 a rfl
theorem Ytu {V O : Type} {f : V → Option (Lp V O)} (I : V → Prop) (J : O → Prop) (h1 : ∀ v v', I v → f v = some (.go v') → I v') (h2 : ∀ v o, I v → f v = some (.done o) → J o) {v : V} {o : O} (h : loop f v = some o) (hv : I v) : J o := by
 obtain ⟨k, hk⟩ := Xh4.1 h
 clear h
 induction k generalizing v with
 | zero => cases hk
 | succ k ih =>
  rw [it] at hk
  cases e : f v with
  | none => rw [e] at hk; cases hk
  | some s =>
   rw [e] at hk
   cases s with
   | go y => exact ih (h1 v y hv e) hk
   | done o' => cases hk; exact h2 v o hv e
theorem Yda (l qp p : Int) (h0 : 0 ≤ qp ∧ qp ≤ 40) (hp : 0 ≤ p ∧ p ≤ 15) : Xia l qp p = Xe0 l qp p := by
 unfold Xia Xe0
 rw [Xao, Xak, Yk0 qp p h0 hp]
theorem Yc9 (l qp : Int) (h0 : 0 ≤ qp ∧ qp ≤ 40) : Xh9 l qp = Xez l qp := by
 unfold Xh9 Xez
 rw [Xao, Xak, Yng qp h0]
def Xwu (k : Int) (v7 : Int × List Int) : Option (Lp (Int × List Int) (List Int)) :=
 sel (decide (v7.1 < 4)) (
 bnd (it (Xmd k v7) 10 (0, v7.2)) fun v18 =>
 some (.go (Xaa .i64 (v7.1 + 1), v18))) (
 some (.done v7.2))
theorem Yoy {k : Int} {v : Int × List Int} {x : Lp (Int × List Int) (List Int)} (h : Xwu k v = some x) : Xir k v = some x := by
 unfold Xwu at h
 unfold Xir
 rcases Xqf h with ⟨hb, h⟩ | ⟨hb, h⟩
 ·
  rw [hb, Xaw]
  obtain ⟨a, h1, h2⟩ := Xa6 h
  rw [Xh4.2 ⟨10, h1⟩, Xad]
  exact h2
 ·
  rw [hb, Xav]; exact h
def Xob (k : Int) : List Int := (it (Xwu k) 10 (0, [])).getD []
def Xnn (k i : Int) : Int := (Xaa .i64 ((Xaa .i64 ((Xaa .i64 (8 * (Xaa .i64 ((Xaa .i64 ((Xaa .i64 (k.tdiv 2)) * 4)) + (Xaa .i64 (i.tdiv 4)))))) + (Xaa .i64 ((k.tmod 2) * 4)))) + (i.tmod 4)))
theorem Yp8 : ∀ k : Fin 4, (it (Xwu (k.val : Int)) 10 (0, [])).isSome = true ∧ (Xob (k.val : Int)).length = 16 ∧ ∀ i : Fin 16, (Xob (k.val : Int)).getD i.val 0 = Xnn (k.val : Int) (i.val : Int) ∧ 0 ≤ Xnn (k.val : Int) (i.val : Int) ∧ Xnn (k.val : Int) (i.val : Int) < 64 := by decide +kernel
theorem Ye2 (k : Nat) (hk : k < 4) : Xly k = some (Xob k) ∧ (Xob k).length = 16 ∧ ∀ i : Nat, i < 16 → (Xob k).getD i 0 = Xnn k i ∧ 0 ≤ Xnn k i ∧ Xnn k i < 64 := by
 obtain ⟨h1, h2, h3⟩ := Yp8 ⟨k, hk⟩
 refine ⟨?_, h2, fun i hi => h3 ⟨i, hi⟩⟩
 obtain ⟨o, ho⟩ := Option.isSome_iff_exists.1 h1
 have hl := Yp4 10 (Yvm (fun v y => Yoy (k := (k : Int))) 10 _ ho)
 unfold Xly
 rw [hl, Xad]
 unfold Xob; simp only at ho; rw [ho]; rfl
theorem Xql (p : List Int) (c : Xkj) (hc : Xjk c = true) (hp : Ysb p = true) : Xgr p c = Xdb p c := by
 have hq := Ynq hc
 obtain ⟨hl, hb⟩ := Ytv hp
 unfold Xgr Xdb
 rw [Xew, Xdt, Xo4 p (by omega), hp, hc, Xjc p 64 5000 (by omega) (by omega) (by omega) hb]
 simp only [Xad, Xaw, Bool.not_true, Xav]
 rw [Xrb 8 (Or.inr rfl) p (by omega)]
 refine Yqd (fun _ => rfl) fun _ => Yqd (fun _ => ?_) fun _ => ?_
 ·
  obtain ⟨w, ew, w1, w2⟩ := Xfd 8 (Or.inr rfl) p 5000 (by omega) (by omega) hb
  rw [ew, Xad, Xad]
  have hloop : loop (Xej c (w, true)) (0, (w, true).1) = loop (Xbe c) (0, (w, true).1) := by
   have : Xej c (w, true) = Xbe c := by
    funext v
    unfold Xej Xbe
    simp only [Yc9 _ _ hq, w1, hl]
    rfl
   rw [this]
  rw [hloop]
  obtain ⟨l, el, l1, l2⟩ := Xsn (f := Xbe c) 64 (fun x => -5000 ≤ x ∧ x ≤ 5000) (fun x => -5760000 ≤ x ∧ x ≤ 5760000) (by
   intro i l hi hll hx
   obtain ⟨d, ed, d1, d2⟩ := Xpm (l.getD i 0) c.Qp hx hq
   unfold Xbe
   simp only [Int.toNat_natCast]
   rw [Xaj (by omega), Xai (by omega), Xai (by omega), ed, Xad, Xai (by omega), Xai (by omega), wk (e := (i : Int) + 1) (by omega) (by omega)]
   exact ⟨d, rfl, d1, d2⟩) (by intro s; unfold Xbe; rw [Xam (by simp)]) w (by omega) w2
  simp only [el, Xad]
  rw [Yc8 l l1 (Ylz l2 (by omega))]
 ·
  refine Ymj fun _ => Yxa ?_ fun _ _ => rfl
  refine Xyy (fun v => (∃ k : Nat, v.1 = (k : Int) ∧ k ≤ 4) ∧ v.2.length = 64) ?_ ?_ ⟨⟨0, rfl, by omega⟩, by simp⟩
  ·
   intro ⟨k0, s⟩ ⟨⟨k, ek, hk⟩, hs⟩
   simp only at ek hs
   subst ek
   unfold Xiy Xb5
   simp only
   refine Yqd (fun hk4 => ?_) fun _ => rfl
   have hk4 : k < 4 := by have := of_decide_eq_true hk4; omega
   rw [wk (e := 16 * (k : Int)) (by omega) (by omega), wk (e := 16 * (k : Int) + 16) (by omega) (by omega)]
   refine Ymj fun _ => ?_
   rw [show (16 * (k : Int)).toNat = 16 * k by omega, show (16 * (k : Int) + 16).toNat - 16 * k = 16 by omega]
   have hcut : ((p.drop (16 * k)).take 16).length = 16 := by rw [List.length_take, List.length_drop]; omega
   obtain ⟨a, ea, a1, a2⟩ := Xfd 4 (Or.inl rfl) ((p.drop (16 * k)).take 16) 5000 (by omega) (by omega) (Yq0 (Yqz hb _) _)
   rw [Xrb 4 (Or.inl rfl) _ (by omega), ea, Xad, Xad]
   have hloop : loop (Xd4 c (a, true)) (0, (a, true).1) = loop (Xbc c) (0, (a, true).1) := by
    have : Xd4 c (a, true) = Xbc c := by
     funext v
     unfold Xd4 Xbc
     simp only [show ((a.length : Nat) : Int) = 16 by omega]
     refine Yqd (fun h16 => ?_) fun _ => rfl
     have := of_decide_eq_true h16
     refine Ymj fun h0 => Ymj fun _ => ?_
     rw [Yda _ _ _ hq (by omega)]
    rw [this]
   rw [hloop]
   obtain ⟨l, el, l1, l2⟩ := Xsn (f := Xbc c) 16 (fun x => -5000 ≤ x ∧ x ≤ 5000) (fun x => -10000000 ≤ x ∧ x ≤ 10000000) (by
    intro i l hi hll hx
    obtain ⟨d, ed, d1, d2⟩ := Xpp (l.getD i 0) c.Qp i hx hq (by omega)
    unfold Xbc
    simp only [Int.toNat_natCast]
    rw [Xaj (by omega), Xai (by omega), Xai (by omega), ed, Xad, Xai (by omega), Xai (by omega), wk (e := (i : Int) + 1) (by omega) (by omega)]
    exact ⟨d, rfl, d1, d2⟩) (by intro s; unfold Xbc; rw [Xam (by simp)]) a (by omega) a2
   obtain ⟨b, eb, b1, b2⟩ := Xqs l l1 l2
   obtain ⟨q1, q2, q3⟩ := Ye2 k hk4
   simp only [el, Xad]
   rw [Yhn l l1 l2, eb, Xad, Xad, q1, Xad]
   refine Yxa ?_ fun _ _ => rfl
   have : Xfr b (Xob k) = Xbf ((k : Int), s) b := by
    funext v
    unfold Xfr Xbf
    simp only [show (((Xob k).length : Nat) : Int) = 16 by omega]
    refine Yqd (fun h16 => ?_) fun _ => rfl
    have h16 := of_decide_eq_true h16
    by_cases h0 : 0 ≤ v.1
    ·
     obtain ⟨i, hi⟩ : ∃ i : Nat, v.1 = (i : Int) := ⟨v.1.toNat, by omega⟩
     obtain ⟨v1, v2⟩ := v
     simp only at hi h0 h16
     subst hi
     obtain ⟨r1, r2, r3⟩ := q3 i (by omega)
     have e1 : (Xaa .i64 ((Xaa .i64 ((Xaa .i64 (8 * (Xaa .i64 ((Xaa .i64 ((Xaa .i64 ((k : Int).tdiv 2)) * 4)) + (Xaa .i64 ((i : Int).tdiv 4)))))) + (Xaa .i64 (((k : Int).tmod 2) * 4)))) + ((i : Int).tmod 4))) = Xnn k i := rfl
     simp only [Int.toNat_natCast, r1, e1]
     refine Xtw (by omega) (Xtw (by omega) (Xtw (by omega) (Xtw (by omega) ?_)))
     refine (Xtw (by omega) (Xtw (by omega) (Xtw (by omega) (Xtw (by omega) (Xtw (by omega) (Xtw (by omega) ?_)))))).symm
     rfl
    ·
     unfold req
     rw [if_neg (by omega), if_pos (by omega), if_pos (by omega), if_pos (by omega), if_pos (by omega), if_neg (by omega)]
   rw [this]
  ·
   intro ⟨k0, s⟩ v' ⟨⟨k, ek, hk⟩, hs⟩ he
   simp only at ek hs
   subst ek
   unfold Xb5 at he
   simp only at he
   rcases Xqf he with ⟨hb4, he⟩ | ⟨_, he⟩
   ·
    have hk4 : k < 4 := by have := of_decide_eq_true hb4; omega
    obtain ⟨_, he⟩ := Xa2 he
    obtain ⟨a, _, he⟩ := Xa6 he
    obtain ⟨l, _, he⟩ := Xa6 he
    obtain ⟨b, _, he⟩ := Xa6 he
    obtain ⟨r, hr, he⟩ := Xa6 he
    rw [wk (e := (k : Int) + 1) (by omega) (by omega)] at he
    cases he
    refine ⟨⟨k + 1, rfl, by omega⟩, ?_⟩
    refine Ytu (f := Xbf ((k : Int), s) b) (fun v => v.2.length = 64) (fun o => o.length = 64) ?_ ?_ hr hs
    ·
     intro v v' hv he
     unfold Xbf at he
     rcases Xqf he with ⟨_, he⟩ | ⟨_, he⟩
     ·
      obtain ⟨_, he⟩ := Xa2 he
      obtain ⟨_, he⟩ := Xa2 he
      obtain ⟨_, he⟩ := Xa2 he
      obtain ⟨_, he⟩ := Xa2 he
      obtain ⟨_, he⟩ := Xa2 he
      obtain ⟨_, he⟩ := Xa2 he
      obtain ⟨_, he⟩ := Xa2 he
      obtain ⟨_, he⟩ := Xa2 he
      cases he
      simp only [List.length_set]; exact hv
     ·
      cases he
    ·
     intro v o hv he
     unfold Xbf at he
     rcases Xqf he with ⟨_, he⟩ | ⟨_, he⟩
     ·
      obtain ⟨_, he⟩ := Xa2 he
      obtain ⟨_, he⟩ := Xa2 he
      obtain ⟨_, he⟩ := Xa2 he
      obtain ⟨_, he⟩ := Xa2 he
      obtain ⟨_, he⟩ := Xa2 he
      obtain ⟨_, he⟩ := Xa2 he
      obtain ⟨_, he⟩ := Xa2 he
      obtain ⟨_, he⟩ := Xa2 he
      cases he
     ·
      cases he; exact hv
   ·
    cases he
theorem Yrb {S O : Type} {f g : Int × S → Option (Lp (Int × S) O)} (n : Nat) (I : Nat → S → Prop) (h : ∀ (i : Nat) (s : S), i ≤ n → I i s → f ((i : Int), s) = g ((i : Int), s)) (hI : ∀ (i : Nat) (s : S) (v' : Int × S), i ≤ n → I i s → g ((i : Int), s) = some (.go v') → v'.1 = ((i + 1 : Nat) : Int) ∧ i + 1 ≤ n ∧ I (i + 1) v'.2) {s0 : S} (h0 : I 0 s0) : loop f (0, s0) = loop g (0, s0) := by
 refine Xyy (fun v => ∃ i : Nat, v.1 = (i : Int) ∧ i ≤ n ∧ I i v.2) ?_ ?_ ⟨0, rfl, by omega, h0⟩
 ·
  intro ⟨k, s⟩ ⟨i, e, hi, hs⟩
  simp only at e hs
  subst e
  exact h i s hi hs
 ·
  intro ⟨k, s⟩ v' ⟨i, e, hi, hs⟩ he
  simp only at e hs
  subst e
  obtain ⟨a, b, c⟩ := hI i s v' hi hs he
  exact ⟨i + 1, a, b, c⟩
theorem Yns {p : Pic} (ok : Xb8 p = true) (x y : Int) : Xem p x y = Xfa p x y := by rw [Yeo ok, Xj7 ok]
theorem Xrn {p : Pic} (ok : Xb8 p = true) {x y : Int} (hx : x.tmod 8 = 0) (hy : y.tmod 8 = 0) (h : Xlq p x y = true) : Xcx p x y = some true := Ya3 ok x y hx hy h
theorem Ykw {p : Pic} (ok : Xb8 p = true) {x y : Int} (hx : x.tmod 8 = 0) (hy : y.tmod 8 = 0) (h : Xlq p x y = true) : Xls p x y = Xgz p x y := by
 unfold Xls Xgz
 rw [Xcg, ok, Xrn ok hx hy h, Xmn ok hx hy h]
 have : Xjo p x y = Xd9 p x y := by
  funext v
  unfold Xjo Xd9
  simp only [Yns ok]
 simp only [Xad, Xaw, Bool.not_true, Xav, this, Yns ok]
theorem Ypj {e : Xkl} (h : Xzy e) : Xlt e = some true := by
 obtain ⟨h1, h2, h3, h4, h5, h6⟩ := h
 have side : ∀ l : List Int, (l.length = 0 ∨ l.length = 8) → (∀ x ∈ l, 0 ≤ x ∧ x ≤ 255) → bnd (sel (decide ((l.length : Int) > 0)) (bnd (Xd1 l 8 0 255) fun q10 => some (!q10)) (some false)) (fun v9 => some v9) = some false := by
  intro l hl hb
  rcases hl with e | e
  ·
   rw [Xam (by omega)]; rfl
  ·
   rw [Xaj (by omega), Xmw l 8 0 255 (by omega)]
   have : (l.all fun x => decide (0 ≤ x ∧ x ≤ 255)) = true := List.all_eq_true.2 fun x hx => decide_eq_true (hb x hx)
   rw [this, e]; rfl
 have go : ∀ (i : Nat) (l : List Int), i < 2 → ([e.Above, e.Left]).getD i Xlf = l → (l.length = 0 ∨ l.length = 8) → (∀ x ∈ l, 0 ≤ x ∧ x ≤ 255) → Xe3 e (i : Int) = some (.go ((i + 1 : Nat) : Int)) := by
  intro i l hi hg hl hb
  unfold Xe3
  simp only [Int.toNat_natCast, hg]
  have hs := side l hl hb
  rw [Xaj (by simp only [List.length_cons, List.length_nil]; omega), Xai (by simp only [List.length_cons, List.length_nil]; omega), Xai (by simp only [List.length_cons, List.length_nil]; omega)]
  obtain ⟨a, ea, hs⟩ := Xa6 hs
  injection hs with hs
  subst hs
  rw [ea, Xad, Xav, wk (by omega) (by omega)]
  rfl
 unfold Xlt
 have : loop (Xe3 e) 0 = some (.out ()) := by
  refine lgo (go 0 e.Above (by omega) rfl h1 h3) (lgo (go 1 e.Left (by omega) rfl h2 h4) (Xck ?_))
  unfold Xe3
  rw [Xam (by simp)]
 rw [this, Xad, Xao, Xad, decide_eq_true ⟨h5, h6⟩]
def Yrs (l : List Int) : Nat → Int
 | 0 => 0
 | n + 1 => Yrs l n + l.getD n 0
theorem Xst {l : List Int} (h : ∀ x ∈ l, 0 ≤ x ∧ x ≤ 255) : ∀ n : Nat, n ≤ l.length → 0 ≤ Yrs l n ∧ Yrs l n ≤ 255 * n
 | 0, _ => by simp [Yrs]
 | n + 1, hn => by
  have a := Xst h n (by omega)
  have b := h (l.getD n 0) (by rw [Xce l n (by omega)]; exact List.getElem_mem _)
  rw [Yrs]; omega
theorem Ym5 {f : Int × Int → Option (Lp (Int × Int) Int)} {l : List Int} (hl : l.length ≤ 64) (h : ∀ x ∈ l, 0 ≤ x ∧ x ≤ 255) (hf : ∀ v, f v = sel (decide (v.2 < (l.length : Int))) (req (0 ≤ v.2 ∧ v.2 < l.length) <| some (.go (Xaa .i64 (v.1 + (l.getD v.2.toNat 0)), Xaa .i64 (v.2 + 1)))) (some (.done v.1))) (a : Int) (ha : 0 ≤ a ∧ a ≤ 100000) : loop f (a, 0) = some (a + Yrs l l.length) := by
 obtain ⟨o, e, ho⟩ := Xn2 (f := f) l.length (fun i s => s = a + Yrs l i) (by
  intro i s hi g
  have r := Xst h i (by omega)
  have b := h (l.getD i 0) (by rw [Xce l i (by omega)]; exact List.getElem_mem _)
  rw [hf]
  simp only [Int.toNat_natCast]
  rw [Xaj (by omega), Xai (by omega), wk (e := s + l.getD i 0) (by omega) (by omega), wk (e := (i : Int) + 1) (by omega) (by omega)]
  exact ⟨_, rfl, by rw [Yrs]; omega⟩) (by intro s; rw [hf, Xam (by simp)]) a (by simp [Yrs])
 rw [e, ho]
theorem Xwd {l : List Int} (hl : l.length ≤ 64) (h : ∀ x ∈ l, 0 ≤ x ∧ x ≤ 255) : Xb6 l = some (Yrs l l.length) := by
 unfold Xb6
 rw [Ym5 (f := Xdq l) hl h (fun _ => rfl) 0 (by omega), Xad, Int.zero_add]
theorem Yt0 {e : Xkl} (h : Xzy e) : (sel (decide ((Xaa .i64 ((e.Above.length : Int) + (e.Left.length : Int))) > 0)) (bnd (Xb6 e.Above) fun q5 => bnd (Xb6 e.Left) fun q6 => req ((2 : Int) ≠ 0) <| req ((Xaa .i64 ((e.Above.length : Int) + (e.Left.length : Int))) ≠ 0) <|
  some (Xaa .i64 ((Xaa .i64 ((Xaa .i64 (q5 + q6)) + (Xaa .i64 ((Xaa .i64 ((e.Above.length : Int) + (e.Left.length : Int))).tdiv 2)))).tdiv (Xaa .i64 ((e.Above.length : Int) + (e.Left.length : Int)))))) (some 128)) = Xi3 e := by
 obtain ⟨h1, h2, h3, h4, h5, h6⟩ := h
 unfold Xi3
 have r1 := Xst h3 e.Above.length (Nat.le_refl _)
 have r2 := Xst h4 e.Left.length (Nat.le_refl _)
 rw [wk (e := (e.Above.length : Int) + (e.Left.length : Int)) (by omega) (by omega)]
 by_cases hz : (e.Above.length : Int) + (e.Left.length : Int) = 0
 ·
  rw [Xam (by omega), Xb2 (by simpa using hz)]
 ·
  rw [Xaj (by omega), Xa8 (by simpa using hz), Xwd (by omega) h3, Xad, Xwd (by omega) h4, Xad, Xai (by omega), Xai hz, Xai (by omega), Xbl (a := (e.Above.length : Int) + (e.Left.length : Int)) (by omega), wk (e := ((e.Above.length : Int) + (e.Left.length : Int)) / 2) (by omega) (by omega),
   Ym5 (f := Xgi e) (by omega) h3 (fun _ => rfl) _ (by omega), Xad, Ym5 (f := Xgj e) (by omega) h4 (fun _ => rfl) _ (by omega), Xad, Xai hz, wk (e := Yrs e.Above e.Above.length + Yrs e.Left e.Left.length) (by omega) (by omega), wk (e := Yrs e.Above e.Above.length + Yrs e.Left e.Left.length + ((e.Above.length : Int) + (e.Left.length : Int)) / 2) (by omega) (by omega)]
  congr 3; omega
theorem Yos (l : List Int) (hl : l.length = 0 ∨ l.length = 8) : ∃ g, Xkx l = some g ∧ g.length = 8 ∧ ∀ k : Nat, k < 8 → Xc5 l k = some (g.getD k 0) := by
 unfold Xkx
 rcases hl with e | e
 ·
  refine ⟨_, Xb2 (by rw [e]; rfl), rfl, fun k hk => ?_⟩
  unfold Xc5
  rw [Xb2 (by rw [e]; rfl)]
  congr 1
  obtain rfl | rfl | rfl | rfl | rfl | rfl | rfl | rfl : k = 0 ∨ k = 1 ∨ k = 2 ∨ k = 3 ∨ k = 4 ∨ k = 5 ∨ k = 6 ∨ k = 7 := by omega
  all_goals rfl
 ·
  refine ⟨l, Xa8 (by rw [e]; rfl), e, fun k hk => ?_⟩
  unfold Xc5
  rw [Xa8 (by rw [e]; rfl), Xai (by omega), Int.toNat_natCast]
theorem Ylb (n a b : Int) : Xei n a b = Xeq n a b := by rw [Xjn, Xe9]
def Xxw (m mid v : Int) (A B : List Int) (i : Nat) : Int := sel (m == 0) mid (sel (m == 1) (A.getD (i % 8) 0) (sel (m == 2) (B.getD (i / 8) 0) (Xc7 (Xaa .i64 (Xaa .i64 (B.getD (i / 8) 0 + A.getD (i % 8) 0) - v)) 0 255)))
theorem Ysa {f1 : Int × List Int → Option (Lp (Int × List Int) (List Int))} {f2 : Int × List Int → Int × List Int → Option (Lp (Int × List Int) (List Int))} (g : Nat → Int)
  (h1 : ∀ v, f1 v = sel (decide (v.1 < 8)) (bnd (loop (f2 v) (0, v.2)) fun w => some (.go (Xaa .i64 (v.1 + 1), w))) (some (.done v.2)))
  (h2 : ∀ (r c : Nat) (a s : List Int), r < 8 → c < 8 → s.length = 8 * r + c → f2 ((r : Int), a) ((c : Int), s) = some (.go (((c + 1 : Nat) : Int), s ++ [g (8 * r + c)])))
  (h3 : ∀ (r : Nat) (a s : List Int), f2 ((r : Int), a) (8, s) = some (.done s)) : loop f1 (0, []) = some ((List.range 64).map g) := by
 obtain ⟨o, e, ho⟩ := Xe2 (f := f1) 8 (fun r s => s = (List.range (8 * r)).map g) (by
  intro r s hr hs
  obtain ⟨q, eq, hq⟩ := Xh3 (f := f2 ((r : Int), s)) 8 (fun c s' => s' = (List.range (8 * r + c)).map g) (by
   intro c s' hc hs'
   exact ⟨_, h2 r c s s' hr hc (by rw [hs']; simp), by rw [hs', show 8 * r + (c + 1) = (8 * r + c) + 1 by omega, List.range_succ, List.map_append]; rfl⟩) (fun z _ => h3 r s z) s hs
  rw [h1]
  refine ⟨q, ?_, by rw [hq, show 8 * (r + 1) = 8 * r + 8 by omega]⟩
  simp only
  rw [Xaj (by omega), eq, Xad, wk (by omega) (by omega)]
  rfl) (by intro s; rw [h1, Xam (by simp)]) [] rfl
 rw [e, ho]
theorem Ynd (m : Int) (hm0 : 0 ≤ m ∧ m ≤ 3) {e : Xkl} (h : Xzy e) : ∃ g, Xi6 m e = some g ∧ Xfm m e = some g := by
 have hm : maxLen = 9223372036854775807 := rfl
 obtain ⟨mid, em, m1, m2⟩ := Xt6 h
 obtain ⟨A, eA, hA, fA⟩ := Yos e.Above h.1
 obtain ⟨B, eB, hB, fB⟩ := Yos e.Left h.2.1
 obtain ⟨v, ev⟩ : ∃ v, sel (decide (e.Corner < 0)) (some (128 : Int)) (some e.Corner) = some v := by rw [Yug]; exact ⟨_, rfl⟩
 refine ⟨(List.range 64).map (Xxw m mid v A B), ?_, ?_⟩
 ·
  unfold Xi6
  rw [Ypj h, Xad, Xaw, Xao, Xad, decide_eq_true hm0, Bool.not_true, Xad, Xav, Yt0 h, em, Xad, eA, Xad, eB, Xad, ev, Xad, Ysa (f1 := Xmb m mid A B v) (f2 := Xfy m mid A B v) (Xxw m mid v A B) (fun _ => rfl) ?_ ?_, Xad]
  ·
   intro r c a s hr hc hs
   unfold Xfy Xxw
   simp only [Int.toNat_natCast, Xjn, Xad]
   rw [Xaj (by omega), wk (e := (c : Int) + 1) (by omega) (by omega), show (8 * r + c) % 8 = c by omega, show (8 * r + c) / 8 = r by omega]
   cases (m == 0) with
   | true => rw [Xaw, Xai (by simp only [List.length_singleton]; omega), Xad]; rfl
   | false =>
    rw [Xav]
    cases (m == 1) with
    | true => rw [Xaw, Xai (by omega), Xai (by simp only [List.length_singleton]; omega), Xad]; rfl
    | false =>
     rw [Xav]
     cases (m == 2) with
     | true => rw [Xaw, Xai (by omega), Xai (by simp only [List.length_singleton]; omega), Xad]; rfl
     | false => rw [Xav, Xai (by omega), Xai (by omega), Xai (by simp only [List.length_singleton]; omega), Xad]; rfl
  ·
   intro r a s
   unfold Xfy
   rw [Xam (by simp)]
 ·
  unfold Xfm
  rw [Xqr h, Xad, Xaw, Xak, Xad, decide_eq_true hm0, Bool.not_true, Xad, Xav, ev, Xad]
  obtain ⟨o, eo, ho⟩ := Xe2 (f := Xda m e v) 64 (fun i s => s = (List.range i).map (Xxw m mid v A B)) (by
   intro i s hi hs
   have hlen : s.length = i := by rw [hs]; simp
   refine ⟨s ++ [Xxw m mid v A B i], ?_, by rw [hs, List.range_succ, List.map_append]; rfl⟩
   unfold Xda Xxw
   simp only
   rw [Xaj (by omega), Xai (by omega), Xcd (by omega), show (i : Int) % 8 = ((i % 8 : Nat) : Int) by omega, fA _ (by omega), Xad, Xai (by omega), Xbl (by omega), wk (e := (i : Int) / 8) (by omega) (by omega), show (i : Int) / 8 = ((i / 8 : Nat) : Int) by omega, fB _ (by omega), Xad, wk (e := (i : Int) + 1) (by omega) (by omega), em]
   cases (m == 0) with
   | true => rw [Xaw, Xad, Xai (by simp only [List.length_singleton]; omega), Xad]; rfl
   | false =>
    rw [Xav]
    cases (m == 1) with
    | true => rw [Xaw, Xai (by simp only [List.length_singleton]; omega), Xad]; rfl
    | false =>
     rw [Xav]
     cases (m == 2) with
     | true => rw [Xaw, Xai (by simp only [List.length_singleton]; omega), Xad]; rfl
     | false => rw [Xav, Xe9, Xad, Xai (by simp only [List.length_singleton]; omega), Xad]; rfl) (by intro s; unfold Xda; rw [Xam (by simp)]) [] rfl
  rw [eo, Xad, ho]
theorem Ykx (m : Int) (hm0 : 0 ≤ m ∧ m ≤ 3) {e : Xkl} (h : Xzy e) : Xi6 m e = Xfm m e := by
 obtain ⟨g, h1, h2⟩ := Ynd m hm0 h
 rw [h1, h2]
theorem Xzu (g b : List Int) (hg : Xm9 g = true) (hl : b.length = 64) (hb : inB 10000000 b) : Xkp g b = Xg0 g b := by
 obtain ⟨g1, g2⟩ := Xre hg
 unfold Xkp Xg0
 rw [Xq1 g hg, Yem g (by omega), hg, Ydf b 64 10000000 (by omega) (by omega) hb, Xjc b 64 10000000 (by omega) (by omega) (by omega) hb]
 have : Xli g b = Xey g b := by
  funext v
  unfold Xli Xey
  simp only [Ylb, show ((g.length : Nat) : Int) = 64 by omega]
 simp only [Xad, Xaw, Bool.not_true, Xav, this]
theorem Ypa {s : Xay} (h : Xsc s = true) (h1 : s.Kind = 0) : s.Dx = 0 ∧ s.Dy = 0 := by
 unfold Xsc at h
 rw [h1] at h
 simp at h
 exact ⟨h.2.1, h.2.2.1⟩
theorem Yv5 {s : Xay} (h : Xsc s = true) : (-16 ≤ s.Dx ∧ s.Dx ≤ 16) ∧ (-16 ≤ s.Dy ∧ s.Dy ≤ 16) := by
 have hk := Yo9 h
 obtain h1 | h1 | h1 : s.Kind = 0 ∨ s.Kind = 1 ∨ s.Kind = 2 := by omega
 ·
  obtain ⟨a, b⟩ := Ypa h h1; omega
 ·
  obtain ⟨a, b, _⟩ := Yro h h1; exact ⟨a, b⟩
 ·
  unfold Xsc at h
  rw [h1] at h
  simp at h
  omega
theorem Yew (s : Xay) (c : Xkj) : Xgs s c = some (Xmo s c) := by
 unfold Xgs Xmo
 cases c.Key <;> rfl
structure Yw2 (now ref : Pic) (l t x y : Int) (c : Xkj) (q : Xay) : Prop where
 ok : Xb8 now = true
 hx : x.tmod 8 = 0
 hy : y.tmod 8 = 0
 h0 : Xlq now x y = true
 hl : 0 ≤ l ∧ l ≤ 256
 ht : 0 ≤ t ∧ t ≤ 256
 hc : Xjk c = true
 hs : q.Levels.length ≤ 1048576
theorem Yk1 {now ref : Pic} {l t x y : Int} {c : Xkj} {q : Xay} (h : Yw2 now ref l t x y c q) (hq : (Xsc q && Xmo q c) = false) : Xc9 now ref l t c x y q = some ([], false) := by
 unfold Xc9
 rw [Xcg, Xad, h.ok, Xaw, Xrn h.ok h.hx h.hy h.h0, Xad, Xaw, Xao, Xad, decide_eq_true h.hl, Xaw, Xao, Xad, decide_eq_true h.ht, Xaw, Xfz q (by have := h.hs; omega), Xad, Xdt, Xad, h.hc, Xaw, Yew, Xad]
 cases h1 : Xsc q with
 | false => rfl
 | true =>
  rw [h1, Bool.true_and] at hq
  rw [hq]; rfl
theorem Ydb {now ref : Pic} {l t x y : Int} {c : Xkj} {q : Xay} (h : Yw2 now ref l t x y c q) (hq : Xsc q = true) (hL : Xmo q c = true) (hr : c.Key = false → Xb8 ref = true) : ∃ d, Xc9 now ref l t c x y q = some (d, true) ∧ Xcm now ref l t c x y q = some (d, true) ∧ Xm9 d = true := by
 obtain ⟨ok, hx, hy, h0, hl, ht, hc, hs⟩ := h
 obtain ⟨k1, k2, k3⟩ := Xbk ok
 have h0' := h0
 unfold Xlq at h0'
 rw [decide_eq_true_eq] at h0'
 have dxy := Yv5 hq
 unfold Xcm Xc9
 rw [Xmn ok hx hy h0, Xad, Xaw, Xak, Xad, decide_eq_true hl, Xaw, Xak, Xad, decide_eq_true ht, Xaw, Xiu, Xad, hq, Xaw, Xew, Xad, hc, Bool.not_true, Xad, Xav]
 rw [Xcg, Xad, ok, Xaw, Xrn ok hx hy h0, Xad, Xaw, Xao, Xad, decide_eq_true hl, Xaw, Xao, Xad, decide_eq_true ht, Xaw, Xfz q (by omega), Xad, hq, Xaw, Xdt, Xad, hc, Xaw, Yew, Xad, hL, Xaw]
 by_cases h2 : q.Kind = 2
 ·
  obtain ⟨hm, hlv⟩ := Yv6 hq h2
  obtain ⟨e, ee, he⟩ := Yf8 ok hx hy h0
  obtain ⟨b, eb, b1, b2⟩ := Xoe q.Levels c hc hlv
  obtain ⟨g, eg, hg⟩ := Ygb q.Mode hm he
  obtain ⟨j, ej, hj⟩ := Xtz g b hg b1 b2
  refine ⟨j, ?_, ?_, hj⟩
  ·
   rw [Xa8 (b := q.Kind != 2) (by simpa using h2), Xad, Xav, Xa8 (by rw [h2]; rfl), Xql q.Levels c hc hlv, eb, Xad, Xa8 (by rw [h2]; rfl), Ykw ok hx hy h0, ee, Xad, Ykx q.Mode hm he, eg, Xad, Xzu g b hg b1 b2, ej, Xad]
  ·
   rw [Xb2 (by simpa using h2), ee, Xad, eb, Xad, eg, Xad, ej, Xad]
 ·
  have hK : c.Key = false := by
   unfold Xmo at hL
   cases hk : c.Key with
   | false => rfl
   | true => rw [hk] at hL; simp at hL; exact absurd hL h2
  have rok := hr hK
  rw [Xb2 (b := q.Kind != 2) (by simpa using h2), Xcg, Xad, rok, Bool.not_true, Xad, Xav]
  rw [Xa8 (b := q.Kind == 2) (by simpa using h2), hK, Xav, Xfw, Xad, rok, Bool.not_true, Xad, Xav]
  rw [wk (e := l + x) (by omega) (by omega), wk (e := l + x + q.Dx) (by omega) (by omega), wk (e := t + y) (by omega) (by omega), wk (e := t + y + q.Dy) (by omega) (by omega), Yf1 rok _ _ (by omega) (by omega), Xad, Xv6 rok _ _ (by omega) (by omega), Xad, Xv6 rok _ _ (by omega) (by omega)]
  by_cases h3 : q.Kind = 0
  ·
   obtain ⟨z1, z2⟩ := Ypa hq h3
   rw [Xb2 (b := q.Kind == 0) (by simpa using h3), Xb2 (b := q.Kind == 0) (by simpa using h3), z1, z2, Int.add_zero, Int.add_zero]
   exact ⟨_, rfl, rfl, Ydh _ _ _⟩
  ·
   have h1 : q.Kind = 1 := by have := Yo9 hq; omega
   obtain ⟨_, _, hlv⟩ := Yro hq h1
   obtain ⟨b, eb, b1, b2⟩ := Xoe q.Levels c hc hlv
   obtain ⟨j, ej, hj⟩ := Xtz _ b (Ydh ref (l + x + q.Dx) (t + y + q.Dy)) b1 b2
   rw [Xa8 (b := q.Kind == 0) (by simpa using h3), Xa8 (b := q.Kind == 0) (by simpa using h3), Xql q.Levels c hc hlv, eb, Xad, Xad, Xb2 (b := q.Kind == 1) (by simpa using h1), Xad, Xzu _ b (Ydh _ _ _) b1 b2, ej, Xad]
   exact ⟨_, rfl, rfl, hj⟩
theorem Yvz {β : Type} {a b c : Prop} [Decidable a] [Decidable b] [Decidable c] (hb : b) (hc : c) (k : Option β) : req a (req b (req c k)) = req b (req c (req a k)) := by
 rw [Xai hb, Xai hc, Xai hb, Xai hc]
theorem Yqs {p : Pic} (ok : Xb8 p = true) : p.Dots.size ≤ 65536 := by
 obtain ⟨k1, k2, k3⟩ := Xbk ok
 have := Xd0 k1 k2
 omega
theorem Yt5 {p : Pic} {x y : Int} {d : List Int} (hd : Xm9 d = true) (hp : p.Dots.size ≤ maxLen) : Xsj p x y d = Xhc p x y d := by
 obtain ⟨d1, d2⟩ := Xre hd
 unfold Xsj Xhc Xo5
 rw [Xai hp, Xad, Xai hp]
 have : Xp5 p x y d = Xe1 p x y d := by
  funext v
  unfold Xp5 Xe1
  simp only [show ((d.length : Nat) : Int) = 64 by omega]
  exact Yqd (fun _ => Yvz (by omega) (by omega) _) fun _ => rfl
 rw [this]
theorem Ytx (n : Nat) (x : Int) : ((List.range n).map fun _ => x) = List.replicate n x := by
 apply List.ext_getElem
 ·
  simp
 ·
  intro i h1 h2; simp
theorem Xz0 (w h : Int) (hw : 1 ≤ w ∧ w ≤ 256) (hh : 1 ≤ h ∧ h ≤ 256) : Xna w h = some ⟨w, h, strOfNums (List.replicate (w * h).toNat 128)⟩ := by
 have ar := Xd0 hw hh
 unfold Xna
 rw [Xao, Xad, decide_eq_true hw, Xaw, Xao, Xad, decide_eq_true hh, Bool.not_true, Xad, Xav, wk (e := w * h) (by omega) (by omega), Xai (by omega)]
 rw [Ysg (f := Xlu w h) (w * h).toNat (fun _ => 128) (List.replicate (w * h).toNat 0) (by simp) ?_ ?_, Xad, Ytx]
 ·
  intro i s hi hs _
  unfold Xlu
  simp only [List.length_replicate, Int.toNat_natCast]
  rw [wk (e := w * h) (by omega) (by omega), Xaj (by omega), Xai (by omega), Xai (by omega), wk (by omega) (by omega)]
  rfl
 ·
  intro s hs
  unfold Xlu
  simp only [List.length_replicate]
  rw [wk (e := w * h) (by omega) (by omega), Xam (by omega)]
theorem Yaa (w h : Int) (hw : 1 ≤ w ∧ w ≤ 256) (hh : 1 ≤ h ∧ h ≤ 256) : Xnq w h = some ⟨w, h, strOfNums (List.replicate (w * h).toNat 128)⟩ := by
 have ar := Xd0 hw hh
 unfold Xnq
 rw [Xak, Xad, decide_eq_true hw, Xaw, Xak, Xad, decide_eq_true hh, Bool.not_true, Xad, Xav, wk (e := w * h) (by omega) (by omega), show w * h = (((w * h).toNat : Nat) : Int) by omega, Ygx _ _ (by omega), Xad, Int.toNat_natCast]
def Xlr (p : Pic) (r : Xpv) : Bool := decide (1 ≤ r.Wide ∧ r.Wide ≤ p.Wide) && (decide (1 ≤ r.High ∧ r.High ≤ p.High) && (decide (0 ≤ r.Left ∧ r.Left ≤ p.Wide - r.Wide) && decide (0 ≤ r.Top ∧ r.Top ≤ p.High - r.High)))
theorem Xp4 {p : Pic} (ok : Xb8 p = true) (r : Xpv) : Xdu p r = some (Xlr p r) := by
 obtain ⟨k1, k2, k3⟩ := Xbk ok
 unfold Xdu Xlr
 rw [Xao, Xao, Xad, Xad]
 by_cases h1 : 1 ≤ r.Wide ∧ r.Wide ≤ p.Wide
 ·
  rw [decide_eq_true h1, Xaw, Bool.true_and]
  by_cases h2 : 1 ≤ r.High ∧ r.High ≤ p.High
  ·
   rw [decide_eq_true h2, Xaw, Bool.true_and, wk (e := p.Wide - r.Wide) (by omega) (by omega), wk (e := p.High - r.High) (by omega) (by omega), Xao, Xao, Xad, Xad, Xd7, Xad]
  ·
   rw [decide_eq_false h2, Xav, Bool.false_and]; rfl
 ·
  rw [decide_eq_false h1, Xav, Bool.false_and]; rfl
end Go.Proofs.YtjgbfopmjpkkhaaGreat.A.Pure
