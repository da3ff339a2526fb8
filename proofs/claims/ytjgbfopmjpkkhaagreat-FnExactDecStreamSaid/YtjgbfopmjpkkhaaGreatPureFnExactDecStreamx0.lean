/- The pure statement of the law FnExactDecStream, part 1: over numbers, texts and lists alone, what the law computes is true. Conditions: the sizes of what a machine holds. -/
import Derived.Test.YtjgbfopmjpkkhaaGreatDFnExactDecStream
namespace Go.Proofs.YtjgbfopmjpkkhaaGreat.A.Pure
open Go Go.Proofs Go.Proofs.YtjgbfopmjpkkhaaGreatAL Go.RowKit
set_option linter.unusedVariables false
set_option linter.unusedSimpArgs false
set_option maxHeartbeats 1000000
theorem Xad {α β : Type} (a : α) (f : α → Option β) : bnd (some a) f = f a := rfl
theorem Xeu {α β : Type} {x : Option α} {a : α} {f : α → Option β} (h : x = some a) : bnd x f = f a := by subst h; rfl
theorem Xax {β : Type} (x y : β) : sel true x y = x := rfl
theorem Xaw {β : Type} (x y : β) : sel false x y = y := rfl
theorem Yim {β : Type} (b : Bool) (x y : β) : sel (!b) x y = sel b y x := by cases b <;> rfl
theorem Xcj (b x : Bool) : sel b (some x) (some false) = some (b && x) := by cases b <;> rfl
theorem Yka (b x : Bool) : sel b (some true) (some x) = some (b || x) := by cases b <;> rfl
theorem Yl6 (b x : Bool) : sel b (some x) (some true) = some (!b || x) := by cases b <;> rfl
theorem Yv0 (b x : Bool) : sel b (some false) (some x) = some (!b && x) := by cases b <;> rfl
theorem Yua {β : Type} (b : Bool) (x y : β) : sel b (some x) (some y) = some (sel b x y) := by cases b <;> rfl
theorem Yl5 {β : Type} (b : Bool) (x y : β) : sel b x y = if b = true then x else y := by cases b <;> rfl
theorem Yl4 {β : Type} (p : Prop) [Decidable p] (x y : β) : sel (decide p) x y = if p then x else y := by
 by_cases h : p <;> simp [h, sel]
theorem Xbh {β : Type} {b : Bool} {x y : β} (h : b = true) : sel b x y = x := by subst h; rfl
theorem Xa9 {β : Type} {b : Bool} {x y : β} (h : b = false) : sel b x y = y := by subst h; rfl
theorem Xaj {β : Type} {p : Prop} [Decidable p] {x y : β} (h : p) : sel (decide p) x y = x := by simp [h, sel]
theorem Xal {β : Type} {p : Prop} [Decidable p] {x y : β} (h : ¬ p) : sel (decide p) x y = y := by simp [h, sel]
theorem Xai {β : Type} {c : Prop} [Decidable c] {k : Option β} (h : c) : req c k = k := if_pos h
theorem wk {e : Int} (h1 : -9223372036854775808 ≤ e) (h2 : e ≤ 9223372036854775807) : Xaa .i64 e = e := by
 show wrap64 e = e
 unfold wrap64; omega
theorem w8 {e : Int} (h1 : 0 ≤ e) (h2 : e ≤ 255) : Xaa .u8 e = e := by
 show IntKind.wrap .u8 e = e
 simp [IntKind.wrap, IntKind.signed, IntKind.bits]; omega
theorem Xch {a b : Int} (h : 0 ≤ a) : Int.tmod a b = a % b := Int.tmod_eq_emod_of_nonneg h
theorem Xbn {a b : Int} (h : 0 ≤ a) : Int.tdiv a b = a / b := Int.tdiv_eq_ediv_of_nonneg h
theorem Xdk {P : Nat → Prop} (n : Nat) (h0 : P n) (hs : ∀ i, i < n → P (i + 1) → P i) : ∀ i, i ≤ n → P i := by
 intro i hi
 obtain ⟨k, rfl⟩ : ∃ k, n = i + k := ⟨n - i, by omega⟩
 clear hi
 induction k generalizing i with
 | zero => exact h0
 | succ k ih =>
  refine hs i (by omega) ?_
  exact ih (i + 1) (by rw [show i + 1 + k = i + (k + 1) by omega]; exact h0) (fun j hj => hs j (by omega))
theorem lgo {V O : Type} {f : V → Option (Lp V O)} {x y : V} {r : Option O} (h : f x = some (.go y)) (k : loop f y = r) : loop f x = r := by rw [Xn9 h]; exact k
theorem Xb1 {V O : Type} {f : V → Option (Lp V O)} {x : V} {o : O} (h : f x = some (.done o)) : loop f x = some o := Xco h
theorem Yqt {V O : Type} {f : V → Option (Lp V O)} (I : V → Prop) (m : V → Nat) (Q : V → O → Prop) (h : ∀ v, I v → (∃ o, f v = some (.done o) ∧ Q v o) ∨ ∃ v', f v = some (.go v') ∧ I v' ∧ m v' < m v ∧ ∀ o, Q v' o → Q v o) : ∀ v, I v → ∃ o, loop f v = some o ∧ Q v o := by
 intro v
 generalize hn : m v = n
 induction n using Nat.strongRecOn generalizing v with
 | _ n ih =>
  intro hv
  rcases h v hv with ⟨o, h1, h2⟩ | ⟨v', h1, h2, h3, h4⟩
  ·
   exact ⟨o, Xco h1, h2⟩
  ·
   obtain ⟨o, h5, h6⟩ := ih (m v') (by omega) v' rfl h2
   exact ⟨o, by rw [Xn9 h1]; exact h5, h4 o h6⟩
theorem Xci {α : Type} (l : List α) (i : Nat) (h : i < l.length) (d : α) : l.getD i d = l[i] := by
 simp [List.getD_eq_getElem?_getD, List.getElem?_eq_getElem h]
theorem Xan (a b c : Int) : Xat a b c = some (decide (b ≤ a ∧ a ≤ c)) := by
 unfold Xat
 by_cases h : b ≤ a <;> simp [bnd, sel, h]
theorem Xak (a b c : Int) : Xay a b c = some (decide (b ≤ a ∧ a ≤ c)) := by
 unfold Xay
 by_cases h : b ≤ a <;> simp [bnd, sel, h]
theorem Yl7 {α : Type} (a : List α) (x y : α) (b : List α) : (a ++ x :: b).set a.length y = a ++ y :: b := by
 induction a with
 | nil => rfl
 | cons z a ih => simp only [List.cons_append, List.length_cons, List.set_cons_succ, ih]
theorem Xnp {α : Type} (a : List α) (x d : α) (b : List α) : (a ++ x :: b).getD a.length d = x := by
 induction a with
 | nil => rfl
 | cons z a ih => simp
theorem Xo5 {f : Int → Option (Lp Int (Ou Unit Bool))} (n : Nat) (h : ∀ i : Nat, i < n → f i = some (.go ((i + 1 : Nat) : Int))) (h0 : f n = some (.done (.out ()))) : loop f 0 = some (.out ()) :=
 Xdk (P := fun i => loop f (i : Int) = some (.out ())) n (Xco h0) (fun i hi ih => by rw [Xn9 (h i hi)]; exact ih) 0 (by omega)
theorem Xw2 (n : Int) : (strOfNums [n]).size = 1 := rfl
theorem Ya4 (k : Int) (h0 : 0 < k) (h1 : k ≤ 1000000000000) : ∃ s, Xep k = some s := by
 unfold Xep
 rw [Xal (by omega)]
 obtain ⟨o, h, h2⟩ := Yqt (f := Xil) (fun v => 0 ≤ v.1 ∧ v.1 + v.2.size ≤ 1000000000000) (fun v => v.1.toNat) (fun _ o => o.size ≤ 1000000000000) (by
  intro ⟨n, s⟩ ⟨a, b⟩
  unfold Xil
  simp only at a b ⊢
  by_cases h : n > 0
  ·
   rw [Xaj h, Xai (by decide), Xw2, Xai (by omega), Xai (by decide), Xbn a]
   refine .inr ⟨_, rfl, ?_, ?_, fun _ h => h⟩
   ·
    simp only [ByteArray.size_append, Xw2]
    rw [wk (by omega) (by omega)]; omega
   ·
    simp only
    rw [wk (by omega) (by omega)]; omega
  ·
   rw [Xal h]
   exact .inl ⟨_, rfl, by omega⟩) (k, ⟨#[]⟩) ⟨by simp only; omega, by simp only [show (⟨#[]⟩ : ByteArray).size = 0 from rfl]; omega⟩
 rw [h, Xad, Xai (by simp only [show (⟨#[109]⟩ : ByteArray).size = 1 from rfl]; omega)]
 exact ⟨_, rfl⟩
noncomputable def mT (k : Int) : ByteArray := (Xep k).getD ⟨#[]⟩
theorem Xqf (k : Int) (h0 : 0 < k) (h1 : k ≤ 1000000000000) : Xep k = some (mT k) := by
 obtain ⟨s, h⟩ := Ya4 k h0 h1
 unfold mT; rw [h]; rfl
def Xc9 (n a b : Int) : Int := if b < a ∨ n < a then a else if n > b then b else n
theorem Xje (n a b : Int) : Xeh n a b = some (Xc9 n a b) := by
 unfold Xeh Xc9
 congr 1
 repeat' split
 all_goals omega
theorem Xmr {n a b : Int} (h : a ≤ b) : a ≤ Xc9 n a b ∧ Xc9 n a b ≤ b := by
 unfold Xc9
 repeat' split
 all_goals omega
theorem Xfb (n a b : Int) : Xeq n a b = some (Xc9 n a b) := by
 unfold Xeq Xc9
 rw [Yka, Xad]
 by_cases h : b < a ∨ n < a
 ·
  rw [if_pos h, Xbh (by simpa using h)]
 ·
  rw [if_neg h, Xa9 (by simp; omega), Yl4]; split <;> rfl
def Xi4 (n : Int) : Bool := decide (1 ≤ n ∧ n ≤ 8)
def Xnr : List Int → Int
 | [] => 0
 | x :: r => x + Xnr r
def Xh0 (l : List Int) : Bool := decide (1 ≤ l.length ∧ l.length ≤ 4) && l.all Xi4
def Xy4 (l : List Int) : Int := if Xh0 l = true then Xnr l else 0
theorem Xpv : ∀ {l : List Int}, l.all Xi4 = true → (l.length : Int) ≤ Xnr l ∧ Xnr l ≤ 8 * l.length
 | [], _ => by simp [Xnr]
 | x :: r, h => by
  rw [List.all_cons, Bool.and_eq_true] at h
  have := Xpv h.2
  have hx := h.1
  unfold Xi4 at hx
  simp only [decide_eq_true_eq] at hx
  rw [Xnr, List.length_cons]
  omega
theorem Xzq (l : List Int) : 0 ≤ Xy4 l ∧ Xy4 l ≤ 32 := by
 unfold Xy4
 split
 ·
  rename_i h
  unfold Xh0 at h
  rw [Bool.and_eq_true, decide_eq_true_eq] at h
  have := Xpv h.2
  omega
 ·
  omega
theorem Xld (l : List Int) : Xg4 l = some (Xy4 l) := by
 unfold Xg4 Xy4 Xh0
 rw [Yka, Xad]
 by_cases h : 1 ≤ l.length ∧ l.length ≤ 4
 ·
  rw [Xa9 (by simp; omega), decide_eq_true h, Bool.true_and]
  have key : ∀ (r a : List Int) (t : Int), l = a ++ r → 0 ≤ t → t ≤ 8 * a.length → loop (Xgf l) (t, (a.length : Int)) = some (if r.all Xi4 = true then .out (t + Xnr r) else .ret 0) := by
   intro r
   induction r with
   | nil =>
    intro a t ha h0 h1
    rw [List.append_nil] at ha
    refine Xb1 ?_
    unfold Xgf
    simp only
    rw [Xal (by rw [ha]; omega)]
    simp [Xnr]
   | cons x r ih =>
    intro a t ha h0 h1
    have hlen : a.length < l.length := by rw [ha]; simp
    have hx : l.getD a.length 0 = x := by rw [ha]; exact Xnp a x _ r
    have hstep : Xgf l (t, (a.length : Int)) = sel (Xi4 x) (some (.go (Xaa .i64 (t + x), ((a.length + 1 : Nat) : Int)))) (some (.done (.ret 0))) := by
     unfold Xgf
     simp only [Int.toNat_natCast, hx]
     rw [Xaj (by omega), Xai (by omega), Xak, Xad, Yim, Xai (by omega), wk (e := (a.length : Int) + 1) (by omega) (by omega)]
     rfl
    cases e : Xi4 x with
    | true =>
     rw [e] at hstep
     have hx2 := e
     unfold Xi4 at hx2
     simp only [decide_eq_true_eq] at hx2
     rw [wk (by omega) (by omega), Xax] at hstep
     have := ih (a ++ [x]) (t + x) (by rw [ha]; simp) (by omega) (by simp; omega)
     rw [List.length_append, List.length_singleton] at this
     rw [Xn9 hstep, this, List.all_cons, e, Bool.true_and, Xnr, Int.add_assoc]
    | false =>
     rw [e, Xaw] at hstep
     rw [Xco hstep, List.all_cons, e, Bool.false_and]; rfl
  have := key l [] 0 rfl (by omega) (by simp)
  simp only [List.length_nil, Int.zero_add] at this
  rw [show (((0 : Int), (0 : Int))) = (0, ((0 : Nat) : Int)) from rfl, this, Xad]
  cases l.all Xi4 <;> rfl
 ·
  rw [Xbh (by simp; omega), decide_eq_false h, Bool.false_and]; rfl
theorem Xml (l : List Int) (h : Xh0 l = true) : Xcb l = some (Xnr l) := by
 unfold Xh0 at h
 rw [Bool.and_eq_true, decide_eq_true_eq] at h
 unfold Xcb
 have key : ∀ (r a : List Int) (t : Int), l = a ++ r → 0 ≤ t → t ≤ 8 * a.length → loop (Xds l) (t, (a.length : Int)) = some (t + Xnr r) := by
  intro r
  induction r with
  | nil =>
   intro a t ha h0 h1
   rw [List.append_nil] at ha
   refine Xb1 ?_
   unfold Xds
   simp only
   rw [Xal (by rw [ha]; omega)]
   simp [Xnr]
  | cons x r ih =>
   intro a t ha h0 h1
   have hlen : a.length < l.length := by rw [ha]; simp
   have hx : l.getD a.length 0 = x := by rw [ha]; exact Xnp a x _ r
   have e : Xi4 x = true := List.all_eq_true.1 h.2 x (by rw [ha]; simp)
   unfold Xi4 at e
   simp only [decide_eq_true_eq] at e
   have := ih (a ++ [x]) (t + x) (by rw [ha]; simp) (by omega) (by simp; omega)
   rw [List.length_append, List.length_singleton] at this
   rw [Xnr, ← Int.add_assoc, ← this]
   refine Xn9 ?_
   unfold Xds
   simp only [Int.toNat_natCast, hx]
   rw [Xaj (by omega), Xai (by omega), wk (e := (a.length : Int) + 1) (by omega) (by omega), wk (by omega) (by omega)]
   rfl
 have := key l [] 0 rfl (by omega) (by simp)
 simp only [List.length_nil, Int.zero_add] at this
 rw [show (((0 : Int), (0 : Int))) = (0, ((0 : Nat) : Int)) from rfl, this, Xad]
def Xnk (s : Seq) : Int := Xy4 s.Cols * Xy4 s.Rows
theorem Xtn (s : Seq) : 0 ≤ Xnk s ∧ Xnk s ≤ 1024 := by
 unfold Xnk
 have h1 := Xzq s.Cols
 have h2 := Xzq s.Rows
 refine ⟨Int.mul_nonneg h1.1 h2.1, ?_⟩
 calc Xy4 s.Cols * Xy4 s.Rows ≤ 32 * Xy4 s.Rows := Int.mul_le_mul_of_nonneg_right h1.2 h2.1
  _ ≤ 1024 := by omega
theorem Xyr (s : Seq) : Xif s = some (Xnk s) := by
 have h := Xtn s
 unfold Xif
 rw [Xld, Xad, Xld, Xad, wk (by show _ ≤ Xnk s; omega) (by show Xnk s ≤ _; omega)]
 rfl
theorem Ysd (s : Seq) (n : Nat) (hn : n = 0 ∨ n = 1) (l : List Int) (hl : ([s.Cols, s.Rows]).getD n Xk4 = l) (h4 : l.length ≤ 4) : loop (Xcl s (n : Int)) 0 = some (if l.all Xi4 = true then .out () else .ret 0) := by
 have key : ∀ (r a : List Int), l = a ++ r → loop (Xcl s (n : Int)) (a.length : Int) = some (if r.all Xi4 = true then .out () else .ret 0) := by
  intro r
  induction r with
  | nil =>
   intro a ha
   rw [List.append_nil] at ha
   refine Xb1 ?_
   unfold Xcl
   rw [Int.toNat_natCast, hl, Xal (by rw [ha]; omega)]; rfl
  | cons x r ih =>
   intro a ha
   have hlen : a.length < l.length := by rw [ha]; simp
   have hx : l.getD a.length 0 = x := by rw [ha]; exact Xnp a x _ r
   have hstep : Xcl s (n : Int) (a.length : Int) = sel (Xi4 x) (some (.go ((a.length + 1 : Nat) : Int))) (some (.done (.ret 0))) := by
    unfold Xcl
    simp only [Int.toNat_natCast, hl, hx]
    rw [Xaj (by omega), Xai (by omega), Xan, Xad, Yim, wk (by omega) (by omega)]
    rfl
   cases e : Xi4 x with
   | true =>
    rw [e, Xax] at hstep
    have := ih (a ++ [x]) (by rw [ha]; simp)
    rw [List.length_append, List.length_singleton] at this
    rw [Xn9 hstep, this, List.all_cons, e, Bool.true_and]
   | false => rw [e, Xaw] at hstep; rw [Xco hstep, List.all_cons, e, Bool.false_and]; rfl
 exact key l [] rfl
theorem Xxp (s : Seq) (h1 : s.Cols.length ≤ maxLen) (h2 : s.Rows.length ≤ maxLen) : Xh6 s = some (Xnk s) := by
 have h := Xtn s
 unfold Xh6
 have step : ∀ (n : Nat) (l : List Int), n = 0 ∨ n = 1 → ([s.Cols, s.Rows]).getD n Xk4 = l → Xdi s (n : Int) = sel (Xh0 l) (some (.go ((n + 1 : Nat) : Int))) (some (.done (.ret 0))) := by
  intro n l hn hl
  unfold Xdi Xh0
  rw [Int.toNat_natCast, hl]
  simp only [List.length_cons, List.length_nil]
  rw [Xaj (by omega), Xai (by omega), Xai (by omega), Xan, Xad, Yim]
  by_cases h4 : 1 ≤ l.length ∧ l.length ≤ 4
  ·
   rw [Xaj (by omega), Ysd s n hn l hl h4.2, Xad, decide_eq_true h4, Bool.true_and, wk (by omega) (by omega)]
   cases l.all Xi4 <;> rfl
  ·
   rw [Xal (by omega), decide_eq_false h4, Bool.false_and, Xaw]
 have s0 := step 0 s.Cols (.inl rfl) rfl
 have s1 := step 1 s.Rows (.inr rfl) rfl
 have s2 : Xdi s ((2 : Nat) : Int) = some (.done (.out ())) := by unfold Xdi; rw [Xal (by simp)]
 rw [show (0 : Int) = ((0 : Nat) : Int) from rfl]
 unfold Xnk at h ⊢
 unfold Xy4 at h ⊢
 cases e0 : Xh0 s.Cols with
 | false => rw [e0, Xaw] at s0; rw [Xco s0, Xad]; simp
 | true =>
  rw [e0, Xax] at s0
  rw [Xn9 s0]
  cases e1 : Xh0 s.Rows with
  | false => rw [e1, Xaw] at s1; rw [Xco s1, Xad]; simp
  | true =>
   rw [e1, Xax] at s1
   rw [Xn9 s1, Xco s2, Xad]
   simp only
   rw [e0, e1, if_pos rfl, if_pos rfl] at h
   rw [Xml _ e0, Xad, Xml _ e1, Xad, wk (by omega) (by omega)]
   simp
def Xlr (n : Int) : Int := if n = 1 then 16 else if n = 2 then 64 else if n = 3 then 256 else 0
theorem Xsr (n : Int) : Xfe n = some (Xlr n) := by
 unfold Xfe Xlr
 simp only [Yl5, beq_iff_eq]
 repeat' split
 all_goals rfl
theorem Xsh (n : Int) : Xe8 n = some (Xlr n) := by
 unfold Xe8 Xlr
 rw [Xan, Xad, Yim]
 by_cases h : 1 ≤ n ∧ n ≤ 3
 ·
  rw [Xaj h, wk (by omega) (by omega), Xai (by simp only [List.length_cons, List.length_nil]; omega), Xai (by simp only [List.length_cons, List.length_nil]; omega)]
  rcases (show n = 1 ∨ n = 2 ∨ n = 3 by omega) with rfl | rfl | rfl <;> rfl
 ·
  rw [Xal h, if_neg (by omega), if_neg (by omega), if_neg (by omega)]
def Xmm (s : Seq) : Bool := decide (1 ≤ Xnk s ∧ Xnk s ≤ Xlr s.Level) && decide (3 ≤ s.Bits ∧ s.Bits ≤ 8)
theorem Xj1 (s : Seq) : Xht s = some (Xmm s) := by
 unfold Xht Xmm
 simp only [Xyr, Xsr, Xak, Xad, Xcj]
theorem Xhg (s : Seq) (h1 : s.Cols.length ≤ maxLen) (h2 : s.Rows.length ≤ maxLen) : Xgb s = some (Xmm s) := by
 unfold Xgb Xmm
 simp only [Xxp s h1 h2, Xsh, Xan, Xad, Xcj]
theorem Xd9 {s : Seq} (h : Xmm s = true) : Xh0 s.Cols = true ∧ Xh0 s.Rows = true ∧ 3 ≤ s.Bits ∧ s.Bits ≤ 8 := by
 unfold Xmm at h
 rw [Bool.and_eq_true, decide_eq_true_eq, decide_eq_true_eq] at h
 obtain ⟨⟨h1, _⟩, h3⟩ := h
 unfold Xnk Xy4 at h1
 refine ⟨?_, ?_, h3⟩
 ·
  refine Classical.byContradiction fun e => ?_
  rw [if_neg e, Int.zero_mul] at h1; omega
 ·
  refine Classical.byContradiction fun e => ?_
  rw [if_neg e, Int.mul_zero] at h1; omega
def Xdo (s : Seq) : Int := if Xmm s = true then (s.Cols.length : Int) * s.Rows.length else 0
theorem Xkt {l : List Int} (h : Xh0 l = true) : 1 ≤ l.length ∧ l.length ≤ 4 := by
 unfold Xh0 at h; rw [Bool.and_eq_true, decide_eq_true_eq] at h; exact h.1
theorem Yhb {s : Seq} (h : Xmm s = true) : 1 ≤ (s.Cols.length : Int) * s.Rows.length ∧ (s.Cols.length : Int) * s.Rows.length ≤ 16 := by
 obtain ⟨h1, h2, _⟩ := Xd9 h
 have a := Xkt h1
 have b := Xkt h2
 have e : ∀ x y : Nat, 1 ≤ x → x ≤ 4 → 1 ≤ y → y ≤ 4 → 1 ≤ x * y ∧ x * y ≤ 16 := by
  intro x y h1 h2 h3 h4
  rcases (show x = 1 ∨ x = 2 ∨ x = 3 ∨ x = 4 by omega) with rfl | rfl | rfl | rfl <;> omega
 have := e _ _ a.1 a.2 b.1 b.2
 rw [← Int.natCast_mul]; omega
theorem Xj4 (s : Seq) : Xfo s = some (Xdo s) := by
 unfold Xfo Xdo
 rw [Xj1, Xad, Yim]
 cases h : Xmm s with
 | false => rfl
 | true => have := Yhb h; rw [Xax, wk (by omega) (by omega), if_pos rfl]
theorem Xjn (s : Seq) (h1 : s.Cols.length ≤ maxLen) (h2 : s.Rows.length ≤ maxLen) : Xfl s = some (Xdo s) := by
 unfold Xfl Xdo
 rw [Xhg s h1 h2, Xad, Yim]
 cases h : Xmm s with
 | false => rfl
 | true => have := Yhb h; rw [Xax, wk (by omega) (by omega), if_pos rfl]
def Xp2 (s : Seq) : Int × Int := if Xmm s = true then (8 * Xnr s.Cols, 8 * Xnr s.Rows) else (0, 0)
theorem Xx1 {l : List Int} (h : Xh0 l = true) : 1 ≤ Xnr l ∧ Xnr l ≤ 32 := by
 unfold Xh0 at h
 rw [Bool.and_eq_true, decide_eq_true_eq] at h
 have := Xpv h.2
 omega
theorem Xti (s : Seq) : Xis s = some (Xp2 s) := by
 unfold Xis Xp2
 rw [Xj1, Xad, Yim]
 cases h : Xmm s with
 | false => rfl
 | true =>
  obtain ⟨h1, h2, _⟩ := Xd9 h
  have a := Xx1 h1
  have b := Xx1 h2
  rw [Xax, Xld, Xad, Xld, Xad, if_pos rfl]
  unfold Xy4
  rw [if_pos h1, if_pos h2, wk (by omega) (by omega), wk (by omega) (by omega)]
theorem Xs0 (s : Seq) (h1 : s.Cols.length ≤ maxLen) (h2 : s.Rows.length ≤ maxLen) : Xir s = some (Xp2 s) := by
 unfold Xir Xp2
 rw [Xhg s h1 h2, Xad, Yim]
 cases h : Xmm s with
 | false => rfl
 | true =>
  obtain ⟨h1, h2, _⟩ := Xd9 h
  have a := Xx1 h1
  have b := Xx1 h2
  rw [Xax, Xml _ h1, Xad, Xml _ h2, Xad, if_pos rfl, wk (by omega) (by omega), wk (by omega) (by omega)]
def Xt7 (p : Par) : Bool := decide (0 ≤ p.Qp ∧ p.Qp ≤ 40) && !(p.Large && p.Exact)
theorem Xmp (p : Par) : Xi6 p = some (Xt7 p) := by
 unfold Xi6 Xt7
 rw [Xak, Xad, Yl6, Xcj, Xad]
 cases p.Large <;> cases p.Exact <;> rfl
theorem Xmj (p : Par) : Xiy p = some (Xt7 p) := by
 unfold Xiy Xt7
 rw [Xan, Xad, Yl6, Xcj, Xad]
 cases p.Large <;> cases p.Exact <;> rfl
def Xcc (p : Pic) : Bool := decide (1 ≤ p.Wide ∧ p.Wide ≤ 256) && (decide (1 ≤ p.High ∧ p.High ≤ 256) && ((p.Dots.size : Int) == p.Wide * p.High))
theorem Xdz {w h : Int} (h1 : 1 ≤ w ∧ w ≤ 256) (h2 : 1 ≤ h ∧ h ≤ 256) : 1 ≤ w * h ∧ w * h ≤ 65536 := by
 have a : w * 1 ≤ w * h := Int.mul_le_mul_of_nonneg_left h2.1 (by omega)
 have b : w * h ≤ 256 * h := Int.mul_le_mul_of_nonneg_right h1.2 (by omega)
 omega
theorem Xfv (p : Pic) : Xgd p = some (Xcc p) := by
 unfold Xgd Xcc
 simp only [Xak, Xad, Xcj]
 by_cases h1 : 1 ≤ p.Wide ∧ p.Wide ≤ 256
 ·
  by_cases h2 : 1 ≤ p.High ∧ p.High ≤ 256
  ·
   have := Xdz h1 h2
   rw [wk (by omega) (by omega)]
  ·
   rw [decide_eq_false h2, Bool.false_and, Bool.false_and]
 ·
  rw [decide_eq_false h1, Bool.false_and, Bool.false_and]
theorem Xck (p : Pic) : Xdh p = some (Xcc p) := by
 unfold Xdh Xcc
 simp only [Xan, Xad, Xcj]
 by_cases h1 : 1 ≤ p.Wide ∧ p.Wide ≤ 256
 ·
  by_cases h2 : 1 ≤ p.High ∧ p.High ≤ 256
  ·
   have := Xdz h1 h2
   rw [wk (by omega) (by omega)]
  ·
   rw [decide_eq_false h2, Bool.false_and, Bool.false_and]
 ·
  rw [decide_eq_false h1, Bool.false_and, Bool.false_and]
def Xn1 (p : Pic) (s : Seq) : Bool := Xcc p && ((p.Wide == (Xp2 s).1) && (p.High == (Xp2 s).2))
theorem Ynn (p : Pic) (s : Seq) (h1 : s.Cols.length ≤ maxLen) (h2 : s.Rows.length ≤ maxLen) : Xot p s = some (Xn1 p s) := by
 unfold Xot Xn1
 simp only [Xs0 s h1 h2, Xck, Xad, Xcj]
theorem Yuc (b : ByteArray) : (b.toList == (⟨#[]⟩ : ByteArray).toList) = decide (b.size = 0) := by
 rw [ByteArray.toList_eq, ByteArray.toList_eq, Bool.eq_iff_iff]
 obtain ⟨⟨l⟩⟩ := b
 show (l == []) = true ↔ decide (l.length = 0) = true
 cases l <;> simp
theorem Yaw (l : List Int) (hl : l.length ≤ 9223372036854775806) : Xko l l = some true := by
 unfold Xko
 rw [Xa9 (by simp), Xo5 l.length (f := Xia l l) (by
  intro i hi
  unfold Xia
  rw [Xaj (by omega), Xai (by omega), Xai (by omega), Xa9 (by simp), wk (by omega) (by omega)]
  rfl) (by unfold Xia; rw [Xal (by omega)])]
 rfl
def Ya6 (k : Int) : List Int → List Int
 | [] => []
 | _ :: r => k :: Ya6 (k + 1) r
theorem Yn5 : ∀ (l : List Int) (k : Int), (Ya6 k l).length = l.length
 | [], _ => rfl
 | _ :: r, k => by rw [Ya6, List.length_cons, List.length_cons, Yn5 r]
theorem Ya1 (l : List Int) (k : Int) (h0 : 0 < k) (h1 : k ≤ 1000000000) (hl : l.length ≤ 100000000) : Xjt l k = some (k + l.length, Ya6 k l) := by
 unfold Xjt
 have key : ∀ (r a : List Int) (j : Int), 0 < j → j + r.length ≤ 2000000000 → a.length + r.length ≤ 100000000 → loop Xf3 (j, (a.length : Int), a ++ r) = some (j + r.length, a ++ Ya6 j r) := by
  intro r
  induction r with
  | nil =>
   intro a j hj1 hj2 hl
   refine Xb1 ?_
   unfold Xf3
   simp only [List.append_nil]
   rw [Xal (by omega)]
   simp [Ya6]
  | cons p r ih =>
   intro a j hj1 hj2 hl
   simp only [List.length_cons] at hj2 hl ⊢
   have hcl : ∀ x : Int, (a ++ x :: r).length = a.length + (r.length + 1) := fun x => by simp
   refine lgo (y := (j + 1, ((a ++ [j]).length : Int), (a ++ [j]) ++ r)) ?_ ?_
   ·
    unfold Xf3
    simp only [Int.toNat_natCast, Yl7, hcl]
    rw [Xaj (by omega), Xai (by omega), Xai (by omega), wk (e := j + 1) (by omega) (by omega), wk (by omega) (by omega)]
    simp
   ·
    rw [ih _ (j + 1) (by omega) (by omega) (by simp; omega)]
    simp only [Ya6, List.append_assoc, List.singleton_append]
    congr 2
    omega
 have := key l [] k h0 (by omega) (by simp; omega)
 simp only [List.length_nil, List.nil_append] at this
 rw [show ((k, 0, l) : Int × Int × List Int) = (k, ((0 : Nat) : Int), l) from rfl, this]
 rfl
theorem Yay (l : List Int) (k : Int) (h0 : 0 < k) (h1 : k ≤ 1000000000) (hl : l.length ≤ 100000000) : Xhk (Ya6 k l) k = some (k + l.length) := by
 unfold Xhk
 have key : ∀ (r a : List Int) (j : Int), 0 < j → j + r.length ≤ 2000000000 → a.length + r.length ≤ 100000000 → loop (Xf1 (a ++ Ya6 j r)) (j, (a.length : Int)) = some (.out (j + r.length)) := by
  intro r
  induction r with
  | nil =>
   intro a j hj1 hj2 hl
   refine Xb1 ?_
   unfold Xf1
   simp only [Ya6, List.append_nil]
   rw [Xal (by omega)]
   simp
  | cons p r ih =>
   intro a j hj1 hj2 hl
   simp only [List.length_cons] at hj2 hl ⊢
   have hcl : ∀ (x : Int) (r : List Int), (a ++ x :: r).length = a.length + (r.length + 1) := fun x r => by simp
   refine lgo (y := (j + 1, ((a ++ [j]).length : Int))) ?_ ?_
   ·
    unfold Xf1
    simp only [Ya6, Int.toNat_natCast, Xnp, hcl, Yn5]
    rw [Xaj (by omega), Xai (by omega), Xa9 (by simp), wk (e := j + 1) (by omega) (by omega), wk (by omega) (by omega)]
    simp
   ·
    have := ih (a ++ [j]) (j + 1) (by omega) (by omega) (by simp; omega)
    simp only [Ya6]
    rw [List.append_assoc, List.singleton_append] at this
    rw [this]
    congr 2
    omega
 have := key l [] k h0 (by omega) (by simp; omega)
 simp only [List.length_nil, List.nil_append] at this
 rw [show ((k, 0) : Int × Int) = (k, ((0 : Nat) : Int)) from rfl, this]
 rfl
theorem Ye5 (p : Pic) : Xoy p p = some true := by
 unfold Xoy
 simp only [bne_self_eq_false, Xaw, beq_self_eq_true, Bool.not_true]
def Yxb (l : List Int) : Prop := ∀ x ∈ l, 0 ≤ x ∧ x ≤ 255
theorem Yvr (l : List Int) (h : Yxb l) : Xav (strOfNums l) = l := by
 unfold Xav
 rw [strOfNums_data, List.map_map]
 have : ∀ x ∈ l, ((fun b : UInt8 => (b.toNat : Int)) ∘ fun n : Int => UInt8.ofNat n.toNat) x = x := by
  intro x hx
  have := h x hx
  simp only [Function.comp_apply, UInt8.toNat_ofNat']
  omega
 rw [List.map_congr_left this, List.map_id']
theorem Ym4 (l : List Int) (h : Yxb l) (i : Nat) (hi : i < l.length) : Xb7 (strOfNums l) (i : Int) = l.getD i 0 := by
 unfold Xb7
 rw [dif_pos (by rw [Int.toNat_natCast, strOfNums_size]; exact hi)]
 have hx := h l[i] (List.getElem_mem hi)
 rw [Xci l i hi]
 show ((((l.map fun n => UInt8.ofNat n.toNat).toArray)[(i : Int).toNat]'(by simpa using hi)).toNat : Int) = _
 simp only [Int.toNat_natCast, List.getElem_toArray, List.getElem_map, UInt8.toNat_ofNat']
 omega
def Yur : Nat → Int → List Int
 | 0, _ => []
 | w + 1, n => Yur w (n / 2) ++ [48 + n % 2]
theorem Yqe : ∀ (w : Nat) (n : Int), (Yur w n).length = w
 | 0, _ => rfl
 | w + 1, n => by rw [Yur, List.length_append, Yqe w]; rfl
def Xoe (l : List Int) : Prop := ∀ x ∈ l, x = 48 ∨ x = 49
theorem Ypa {a b : List Int} (ha : Xoe a) (hb : Xoe b) : Xoe (a ++ b) := fun x hx => (List.mem_append.1 hx).elim (ha x) (hb x)
theorem Xqz {l : List Int} (h : Xoe l) : Yxb l := fun x hx => by rcases h x hx with e | e <;> omega
theorem Yu3 : Xoe [] := fun x hx => by simp at hx
theorem Yqd : ∀ (w : Nat) (n : Int), Xoe (Yur w n)
 | 0, _ => Yu3
 | w + 1, n => Ypa (Yqd w (n / 2)) (fun x hx => by rw [List.mem_singleton.1 hx]; omega)
theorem Yvd : ∀ (k : Nat) (n : Int) (s : List Int), 0 ≤ n → n ≤ 9223372036854775807 → k + s.length ≤ 100000 → loop Xih (n, (k : Int) - 1, List.replicate k 0 ++ s) = some (Yur k n ++ s) := by
 intro k
 induction k with
 | zero =>
  intro n s h0 h1 hl
  refine Xb1 ?_
  unfold Xih
  simp only
  rw [Xal (by omega)]
  simp [Yur]
 | succ k ih =>
  intro n s h0 h1 hl
  have e1 : List.replicate (k + 1) (0 : Int) ++ s = List.replicate k 0 ++ 0 :: s := by rw [List.replicate_succ', List.append_assoc]; rfl
  have e2 := Yl7 (List.replicate k (0 : Int)) 0 (48 + n % 2) s
  rw [List.length_replicate] at e2
  refine lgo (y := (n / 2, (k : Int) - 1, List.replicate k 0 ++ (48 + n % 2) :: s)) ?_ ?_
  ·
   unfold Xih
   have e3 : (((k + 1 : Nat) : Int) - 1).toNat = k := by omega
   simp only [e1, e3]
   rw [Xaj (by omega), Xai (by decide), Xai (by simp; omega), Xai (by simp), Xai (by decide), Xch h0, Xbn h0, wk (e := 48 + n % 2) (by omega) (by omega), w8 (by omega) (by omega), e2, wk (by omega) (by omega), wk (by omega) (by omega)]
   rw [show ((k + 1 : Nat) : Int) - 1 - 1 = (k : Int) - 1 by omega]
  ·
   rw [ih (n / 2) ((48 + n % 2) :: s) (by omega) (by omega) (by simp; omega), Yur, List.append_assoc]; rfl
theorem Yji (n : Int) (w : Nat) (h0 : 0 ≤ n) (h1 : n ≤ 9223372036854775807) (hw : w ≤ 1000) : Xni n (w : Int) = some (strOfNums (Yur w n)) := by
 unfold Xni
 rw [Xai (by omega), wk (by omega) (by omega), Int.toNat_natCast]
 have := Yvd w n [] h0 h1 (by simp; omega)
 rw [List.append_nil, List.append_nil] at this
 rw [this, Xad]
theorem Ygr (n : Nat) (x : Int) (h : n ≤ 1000000000) : Xlw (n : Int) x = some (strOfNums (List.replicate n x)) := by
 unfold Xlw
 rw [Xai (by omega), Int.toNat_natCast]
 have key : ∀ (k a : Nat), k + a = n → loop (Xg0 (n : Int) x) ((a : Int), List.replicate a x ++ List.replicate k 0) = some (List.replicate n x) := by
  intro k
  induction k with
  | zero =>
   intro a ha
   refine Xb1 ?_
   unfold Xg0
   simp only
   rw [Xal (by omega)]
   simp; omega
  | succ k ih =>
   intro a ha
   have e2 := Yl7 (List.replicate a x) 0 x (List.replicate k 0)
   rw [List.length_replicate] at e2
   refine lgo (y := (((a + 1 : Nat) : Int), List.replicate (a + 1) x ++ List.replicate k 0)) ?_ (ih (a + 1) (by omega))
   unfold Xg0
   simp only [List.replicate_succ (n := k), Int.toNat_natCast]
   rw [Xaj (by omega), Xai (by simp; omega), Xai (by simp), e2, wk (by omega) (by omega), List.replicate_succ' (n := a), List.append_assoc]
   rfl
 have := key n 0 rfl
 rw [List.replicate_zero, List.nil_append] at this
 exact Xeu this
theorem Yu4 (x : Int) (h : x = 48 ∨ x = 49) : ((x != 48) && (x != 49)) = false := by rcases h with rfl | rfl <;> rfl
theorem Yq2 (l : List Int) (hl : Xoe l) (hn : l.length ≤ 9223372036854775806) (f : Int → Option (Lp Int (Ou Unit Bool)))
  (h : ∀ i : Nat, i < l.length → f (i : Int) = sel (((l.getD i 0) != 48) && ((l.getD i 0) != 49)) (some (.done (.ret false))) (some (.go ((i + 1 : Nat) : Int)))) (h0 : f (l.length : Int) = some (.done (.out ()))) : loop f 0 = some (.out ()) :=
 Xo5 l.length (fun i hi => by rw [h i hi, Yu4 _ (by rw [Xci l i hi]; exact hl _ (List.getElem_mem hi)), Xaw]) h0
theorem Yjk (l : List Int) (hl : Xoe l) (hn : l.length ≤ 9223372036854775806) : Xk0 (strOfNums l) = some true := by
 unfold Xk0
 rw [Yq2 l hl hn (Xc6 (strOfNums l)) (fun i hi => by
  unfold Xc6
  rw [strOfNums_size, Ym4 l (Xqz hl) i hi, Xaj (by omega), Xai (by omega), Xai (by omega), Xcj, Xad, wk (by omega) (by omega)]; rfl) (by
  unfold Xc6; rw [strOfNums_size, Xal (by omega)])]
 rfl
theorem Ymh (l : List Int) (hl : Xoe l) (hn : l.length ≤ 400000) : Xhs (strOfNums l) = some true := by
 unfold Xhs
 rw [strOfNums_size, Xaj (by omega), Yjk l hl (by omega), Xad, Xad]
theorem Yk8 (l : List Int) (hl : Xoe l) (hn : l.length ≤ 400000) : Xi1 (strOfNums l) = some true := by
 unfold Xi1
 rw [strOfNums_size, Xal (by omega), Yq2 l hl (by omega) (Xhe (strOfNums l)) (fun i hi => by
  unfold Xhe
  rw [strOfNums_size, Ym4 l (Xqz hl) i hi, Xaj (by omega), Xai (by omega), Xai (by omega), Xcj, Xad, wk (by omega) (by omega)]; rfl) (by
  unfold Xhe; rw [strOfNums_size, Xal (by omega)])]
 rfl
def Xof (l : List Int) : Int := l.foldl (fun x b => 2 * x + b - 48) 0
theorem Yya (l : List Int) : ∀ x : Int, l.foldl (fun x b => 2 * x + b - 48) x = x * 2 ^ l.length + Xof l := by
 induction l with
 | nil => intro x; simp [Xof]
 | cons b l ih =>
  intro x
  unfold Xof
  rw [List.foldl_cons, List.foldl_cons, ih, ih (2 * 0 + b - 48), List.length_cons, Int.pow_succ]
  have e1 : (2 * x + b - 48) * 2 ^ l.length = 2 * (x * 2 ^ l.length) + (b - 48) * 2 ^ l.length := by
   rw [show 2 * x + b - 48 = 2 * x + (b - 48) by omega, Int.add_mul, Int.mul_assoc]
  have e2 : x * (2 ^ l.length * 2) = 2 * (x * 2 ^ l.length) := by rw [← Int.mul_assoc, Int.mul_comm]
  rw [e1, e2, show (2 : Int) * 0 + b - 48 = b - 48 by omega]
  omega
theorem Yp3 (a b : List Int) : Xof (a ++ b) = Xof a * 2 ^ b.length + Xof b := by
 show (a ++ b).foldl _ 0 = _
 rw [List.foldl_append]
 exact Yya b (Xof a)
theorem Xpg {l : List Int} (h : Xoe l) : 0 ≤ Xof l ∧ Xof l < 2 ^ l.length := by
 induction l with
 | nil => simp [Xof]
 | cons b l ih =>
  have h1 := ih (fun x hx => h x (by simp [hx]))
  have h2 := h b (by simp)
  rw [show b :: l = [b] ++ l from rfl, Yp3, List.length_append, Int.pow_add, show Xof [b] = b - 48 by simp [Xof]]
  have : (2 : Int) ^ [b].length = 2 := rfl
  rw [this]
  rcases h2 with rfl | rfl <;> omega
def Ye4 (k : Int) : Bool := k == 1 || (k == 5 || (k == 7 || k == 8))
theorem Yic (k : Int) : Xm4 k = some (Ye4 k) := by
 unfold Xm4 Ye4
 simp only [Yka, Xad]
theorem Ygv (k : Int) : Xlx k = some (Ye4 k) := by
 unfold Xlx Ye4
 simp only [Yka, Xad]
theorem Yvt {p : Par} (h : Xt7 p = true) : 0 ≤ p.Qp ∧ p.Qp ≤ 40 := by
 unfold Xt7 at h; rw [Bool.and_eq_true, decide_eq_true_eq] at h; exact h.1
def Yyc (x : Int) : Bool := decide (-5000 ≤ x ∧ x ≤ 5000)
def nz : List Int → Nat
 | [] => 0
 | x :: r => if x = 0 then nz r else nz r + 1
def Yry (l : List Int) : Bool := decide (l.length = 64) && l.all Yyc
theorem Ykp (p : Int → Bool) (l : List Int) (f : Int → Option (Lp Int (Ou Unit Bool))) (h : ∀ i : Nat, i < l.length → f (i : Int) = sel (!(p (l.getD i 0))) (some (.done (.ret false))) (some (.go ((i + 1 : Nat) : Int)))) (h0 : f (l.length : Int) = some (.done (.out ()))) :
  loop f 0 = some (if l.all p = true then .out () else .ret false) := by
 have key : ∀ (r a : List Int), l = a ++ r → loop f (a.length : Int) = some (if r.all p = true then .out () else .ret false) := by
  intro r
  induction r with
  | nil => intro a ha; rw [List.append_nil] at ha; rw [← ha, Xco h0]; rfl
  | cons x r ih =>
   intro a ha
   have hlen : a.length < l.length := by rw [ha]; simp
   have hx : l.getD a.length 0 = x := by rw [ha]; exact Xnp a x _ r
   have hs := h a.length hlen
   rw [hx] at hs
   cases e : p x with
   | true =>
    rw [e] at hs
    have := ih (a ++ [x]) (by rw [ha]; simp)
    rw [List.length_append, List.length_singleton] at this
    rw [Xn9 hs, this, List.all_cons, e, Bool.true_and]
   | false => rw [e] at hs; rw [Xco hs, List.all_cons, e, Bool.false_and]; rfl
 exact key l [] rfl
theorem Yjl (l : List Int) : Xdn l 64 5000 = some (Yry l) := by
 unfold Xdn Yry
 by_cases h : l.length = 64
 ·
  rw [Xa9 (by simp only [bne_eq_false_iff_eq]; omega), Ykp Yyc l (Xdx l 64 5000) (by
   intro i hi
   unfold Xdx
   rw [Xaj (by omega), Xai (by omega), wk (e := 0 - 5000) (by omega) (by omega), Xak, Xad, wk (by omega) (by omega), Int.toNat_natCast]
   rfl) (by unfold Xdx; rw [Xal (by omega)]), Xad, decide_eq_true h, Bool.true_and]
  cases l.all Yyc <;> rfl
 ·
  rw [Xbh (by simp only [bne_iff_ne, ne_eq]; omega), decide_eq_false h, Bool.false_and]
theorem Xmk (l : List Int) (n lo hi : Int) (hl : l.length ≤ 9223372036854775806) : Xd1 l n lo hi = some (l.all (fun x => decide (lo ≤ x ∧ x ≤ hi)) && ((l.length : Int) == n)) := by
 unfold Xd1
 rw [Ykp (fun x => decide (lo ≤ x ∧ x ≤ hi)) l (Xjo l lo hi) (by
   intro i hi
   unfold Xjo
   rw [Xaj (by omega), Xai (by omega), Xan, Xad, wk (by omega) (by omega), Int.toNat_natCast]
   rfl) (by unfold Xjo; rw [Xal (by omega)]), Xad]
 cases l.all (fun x => decide (lo ≤ x ∧ x ≤ hi)) <;> rfl
theorem Xor (l : List Int) (hl : l.length ≤ 9223372036854775806) : Xew l = some (Yry l) := by
 unfold Xew Yry
 rw [Xmk l _ _ _ hl, Xad]
 show some (l.all Yyc && ((l.length : Int) == 64)) = _
 have : ((l.length : Int) == 64) = decide (l.length = 64) := by rw [Bool.eq_iff_iff]; simp only [beq_iff_eq, decide_eq_true_eq]; omega
 rw [this, Bool.and_comm]
theorem Yrz {l : List Int} (h : Yry l = true) : l.length = 64 ∧ l.all Yyc = true := by
 unfold Yry at h; rw [Bool.and_eq_true, decide_eq_true_eq] at h; exact h
def Xjb (c : Xj9) : Bool := decide (0 ≤ c.Qp ∧ c.Qp ≤ 40) && !(c.Large && c.Exact)
theorem Xez (c : Xj9) : Xgu c = some (Xjb c) := by
 unfold Xgu Xjb
 rw [Xak, Xad, Yl6, Xcj, Xad]
 cases c.Large <;> cases c.Exact <;> rfl
theorem Xdv (c : Xj9) : Xgm c = some (Xjb c) := by
 unfold Xgm Xjb
 rw [Xan, Xad, Yl6, Xcj, Xad]
 cases c.Large <;> cases c.Exact <;> rfl
def Xrw (s : Xa1) : Bool :=
 if s.Kind = 0 then decide (s.Mode = 0 ∧ s.Dx = 0 ∧ s.Dy = 0 ∧ s.Levels.length = 0)
 else if s.Kind = 1 then decide (s.Mode = 0) && (decide (-16 ≤ s.Dx ∧ s.Dx ≤ 16) && (decide (-16 ≤ s.Dy ∧ s.Dy ≤ 16) && Yry s.Levels))
 else if s.Kind = 2 then decide (0 ≤ s.Mode ∧ s.Mode ≤ 3) && (decide (s.Dx = 0) && (decide (s.Dy = 0) && Yry s.Levels))
 else false
theorem Yc8 (a b : Int) : (a == b) = decide (a = b) := by rw [Bool.eq_iff_iff]; simp
theorem Xim (s : Xa1) : Xdu s = some (Xrw s) := by
 unfold Xdu Xrw
 simp only [Xak, Yjl, Xad, Xcj, Yc8]
 simp only [Yl4]
 by_cases h0 : s.Kind = 0
 ·
  rw [if_pos h0, if_pos h0]; congr 1; rw [Bool.eq_iff_iff]; simp
 ·
  rw [if_neg h0, if_neg h0]
  by_cases h1 : s.Kind = 1
  ·
   rw [if_pos h1, if_pos h1]
  ·
   rw [if_neg h1, if_neg h1]
   by_cases h2 : s.Kind = 2
   ·
    rw [decide_eq_true h2, Bool.true_and, if_pos h2]
   ·
    rw [decide_eq_false h2, Bool.false_and, if_neg h2]
theorem Xfy (s : Xa1) (hl : s.Levels.length ≤ 9223372036854775806) : Xft s = some (Xrw s) := by
 unfold Xft Xrw
 simp only [Xan, Xor _ hl, Xad, Xcj, Yc8]
 simp only [Yl4]
 by_cases h0 : s.Kind = 0
 ·
  rw [if_pos h0, if_pos h0]; congr 1; rw [Bool.eq_iff_iff]; simp
 ·
  rw [if_neg h0, if_neg h0]
  by_cases h1 : s.Kind = 1
  ·
   rw [if_pos h1, if_pos h1]
  ·
   rw [if_neg h1, if_neg h1]
   by_cases h2 : s.Kind = 2
   ·
    rw [decide_eq_true h2, Bool.true_and, if_pos h2]
   ·
    rw [decide_eq_false h2, Bool.false_and, if_neg h2]
def Xma (s : Xa1) (c : Xj9) : Bool := !c.Key || s.Kind == 2
theorem Yoq {s : Xa1} (h : Xrw s = true) : 0 ≤ s.Kind ∧ s.Kind ≤ 2 := by
 unfold Xrw at h
 repeat' split at h
 all_goals first | omega | simp at h
theorem Yq8 {s : Xa1} (h : Xrw s = true) (h1 : s.Kind = 1) : (-16 ≤ s.Dx ∧ s.Dx ≤ 16) ∧ (-16 ≤ s.Dy ∧ s.Dy ≤ 16) ∧ Yry s.Levels = true := by
 unfold Xrw at h
 rw [if_neg (by omega), if_pos h1] at h
 simp only [Bool.and_eq_true, decide_eq_true_eq] at h
 exact ⟨h.2.1, h.2.2.1, h.2.2.2⟩
theorem Yv3 {s : Xa1} (h : Xrw s = true) (h1 : s.Kind = 2) : (0 ≤ s.Mode ∧ s.Mode ≤ 3) ∧ Yry s.Levels = true := by
 unfold Xrw at h
 rw [if_neg (by omega), if_neg (by omega), if_pos h1] at h
 simp only [Bool.and_eq_true, decide_eq_true_eq] at h
 exact ⟨h.1, h.2.2.2⟩
def Yuf (l : List Xa1) (c : Xj9) : Bool := l.all fun s => Xrw s && (Xjb c && Xma s c)
theorem Xpi (b : ByteArray) (i : Int) : 0 ≤ Xb7 b i ∧ Xb7 b i ≤ 255 := by
 unfold Xb7
 split
 ·
  rename_i h
  have := (b[i.toNat]'h).toNat_lt
  omega
 ·
  omega
theorem Xbo {p : Pic} (h : Xcc p = true) : (1 ≤ p.Wide ∧ p.Wide ≤ 256) ∧ (1 ≤ p.High ∧ p.High ≤ 256) ∧ (p.Dots.size : Int) = p.Wide * p.High := by
 unfold Xcc at h
 simp only [Bool.and_eq_true, decide_eq_true_eq, beq_iff_eq] at h
 exact ⟨h.1, h.2.1, h.2.2⟩
theorem Xv0 {p : Pic} (h1 : 1 ≤ p.Wide ∧ p.Wide ≤ 256) (h2 : 1 ≤ p.High ∧ p.High ≤ 256) (h3 : (p.Dots.size : Int) = p.Wide * p.High) : Xcc p = true := by
 unfold Xcc
 simp only [Bool.and_eq_true, decide_eq_true_eq, beq_iff_eq]
 exact ⟨h1, h2, h3⟩
def Yky (p : Pic) (x y : Int) : Int := Xb7 p.Dots (Xc9 y 0 (p.High - 1) * p.Wide + Xc9 x 0 (p.Wide - 1))
theorem Xpj (p : Pic) (x y : Int) : 0 ≤ Yky p x y ∧ Yky p x y ≤ 255 := Xpi _ _
theorem Yna {p : Pic} (ok : Xcc p = true) (x y : Int) : 0 ≤ Xc9 y 0 (p.High - 1) * p.Wide + Xc9 x 0 (p.Wide - 1) ∧ Xc9 y 0 (p.High - 1) * p.Wide + Xc9 x 0 (p.Wide - 1) < p.Dots.size ∧ 0 ≤ Xc9 y 0 (p.High - 1) * p.Wide ∧ Xc9 y 0 (p.High - 1) * p.Wide ≤ 65536 := by
 obtain ⟨h1, h2, h3⟩ := Xbo ok
 have b1 := Xmr (n := y) (a := 0) (b := p.High - 1) (by omega)
 have b2 := Xmr (n := x) (a := 0) (b := p.Wide - 1) (by omega)
 have m1 := Int.mul_nonneg b1.1 (show 0 ≤ p.Wide by omega)
 have m2 := Int.mul_le_mul_of_nonneg_right b1.2 (show 0 ≤ p.Wide by omega)
 have m3 : (p.High - 1) * p.Wide = p.Wide * p.High - p.Wide := by rw [Int.sub_mul, Int.one_mul, Int.mul_comm]
 have m4 := (Xdz h1 h2).2
 omega
theorem Yel {p : Pic} (ok : Xcc p = true) (x y : Int) : Xel p x y = some (Yky p x y) := by
 obtain ⟨h1, h2, h3⟩ := Xbo ok
 unfold Xel Yky
 rw [Xje, Xad, Xje, Xad, wk (e := p.High - 1) (by omega) (by omega), wk (e := p.Wide - 1) (by omega) (by omega)]
 obtain ⟨p1, p2, p3, p4⟩ := Yna ok x y
 have b2 := Xmr (n := x) (a := 0) (b := p.Wide - 1) (by omega)
 have br := Xpi p.Dots (Xc9 y 0 (p.High - 1) * p.Wide + Xc9 x 0 (p.Wide - 1))
 rw [wk (e := Xc9 y 0 (p.High - 1) * p.Wide) (by omega) (by omega), wk (e := Xc9 y 0 (p.High - 1) * p.Wide + Xc9 x 0 (p.Wide - 1)) (by omega) (by omega), Xai ⟨p1, p2⟩, wk (by omega) (by omega)]
theorem Xjx {p : Pic} (ok : Xcc p = true) (x y : Int) : Xfc p x y = some (Yky p x y) := by
 obtain ⟨h1, h2, h3⟩ := Xbo ok
 unfold Xfc Yky
 rw [Xfv, Xad, ok, Bool.not_true, Xaw, Xfb, Xad, Xfb, Xad, wk (e := p.High - 1) (by omega) (by omega), wk (e := p.Wide - 1) (by omega) (by omega)]
 obtain ⟨p1, p2, p3, p4⟩ := Yna ok x y
 have b2 := Xmr (n := x) (a := 0) (b := p.Wide - 1) (by omega)
 have br := Xpi p.Dots (Xc9 y 0 (p.High - 1) * p.Wide + Xc9 x 0 (p.Wide - 1))
 rw [wk (e := Xc9 y 0 (p.High - 1) * p.Wide) (by omega) (by omega), wk (e := Xc9 y 0 (p.High - 1) * p.Wide + Xc9 x 0 (p.Wide - 1)) (by omega) (by omega), Xai ⟨p1, p2⟩, wk (by omega) (by omega)]
def Yro (p : Pic) (x y : Int) (i : Nat) : Int := Yky p (x + ((i % 8 : Nat) : Int)) (y + ((i / 8 : Nat) : Int))
def Ymq (p : Pic) (x y : Int) (n : Nat) : List Int := (List.range n).map (Yro p x y)
theorem Ym3 (p : Pic) (x y : Int) (n : Nat) : Ymq p x y (n + 1) = Ymq p x y n ++ [Yro p x y n] := by simp [Ymq, List.range_succ]
theorem Xto (p : Pic) (x y : Int) (n : Nat) : (Ymq p x y n).length = n := by simp [Ymq]
def Yu8 (x : Int) : Bool := decide (0 ≤ x ∧ x ≤ 255)
def Xmw (l : List Int) : Bool := decide (l.length = 64) && l.all Yu8
theorem Xq0 {l : List Int} (h : Xmw l = true) : l.length = 64 ∧ ∀ i : Nat, i < 64 → 0 ≤ l.getD i 0 ∧ l.getD i 0 ≤ 255 := by
 simp only [Xmw, Bool.and_eq_true, decide_eq_true_eq] at h
 refine ⟨h.1, fun i hi => ?_⟩
 have := List.all_eq_true.1 h.2 (l.getD i 0) (by rw [Xci l i (by omega)]; exact List.getElem_mem _)
 simpa [Yu8] using this
theorem Yc9 (p : Pic) (x y : Int) : Xmw (Ymq p x y 64) = true := by
 simp only [Xmw, Xto, decide_true, Bool.true_and, List.all_eq_true]
 intro z hz
 obtain ⟨i, _, rfl⟩ := List.mem_map.1 hz
 simp only [Yu8, decide_eq_true_eq]
 exact Xpj _ _ _
theorem Yfq {p : Pic} (ok : Xcc p = true) (x y : Int) (hx : -1000 ≤ x ∧ x ≤ 1000) (hy : -1000 ≤ y ∧ y ≤ 1000) : Xls p x y = some (Ymq p x y 64) := by
 have hm : maxLen = 9223372036854775807 := rfl
 unfold Xls
 rw [Xfv, Xad, ok, Xax, Xak, Xad, Xaj (by omega), Xak, Xad, Xad, decide_eq_true (by omega), Bool.not_true, Xaw]
 have key : ∀ i : Nat, i ≤ 64 → loop (Xgt p x y) ((i : Int), Ymq p x y i) = some (Ymq p x y 64) := by
  refine Xdk _ ?_ ?_
  ·
   exact Xb1 (by unfold Xgt; rw [Xal (by simp)])
  ·
   intro i hi ih
   refine lgo (y := (((i + 1 : Nat) : Int), Ymq p x y (i + 1))) ?_ ih
   unfold Xgt
   simp only
   rw [Xaj (by omega), Xai (by omega), Xai (by omega), Xch (by omega), Xbn (by omega), wk (e := (i : Int) / 8) (by omega) (by omega), wk (e := x + (i : Int) % 8) (by omega) (by omega), wk (e := y + (i : Int) / 8) (by omega) (by omega), Xjx ok, Xad, Xai (by rw [Xto]; simp only [List.length_singleton]; omega), wk (e := (i : Int) + 1) (by omega) (by omega)]
   have e2 : Yky p (x + (i : Int) % 8) (y + (i : Int) / 8) = Yro p x y i := by unfold Yro; congr 1
   rw [e2, ← Ym3]
   rfl
 have := key 0 (by omega)
 exact (Xeu this).trans rfl
theorem Xvp {p : Pic} (ok : Xcc p = true) (x y : Int) (hx : -1000 ≤ x ∧ x ≤ 1000) (hy : -1000 ≤ y ∧ y ≤ 1000) : Xga p x y = some (Ymq p x y 64) := by
 have hm : maxLen = 9223372036854775807 := rfl
 unfold Xga
 rw [Xai (by omega)]
 have key : ∀ r : Nat, r ≤ 8 → loop (Xej p x y) ((r : Int), Ymq p x y (8 * r)) = some (Ymq p x y 64) := by
  refine Xdk _ ?_ ?_
  ·
   exact Xb1 (by unfold Xej; rw [Xal (by simp)])
  ·
   intro r hr ih
   refine lgo (y := (((r + 1 : Nat) : Int), Ymq p x y (8 * (r + 1)))) ?_ ih
   unfold Xej
   simp only
   have inner : ∀ c : Nat, c ≤ 8 → loop (Xek p x y ((r : Int), Ymq p x y (8 * r))) ((c : Int), Ymq p x y (8 * r + c)) = some (Ymq p x y (8 * (r + 1))) := by
    refine Xdk _ ?_ ?_
    ·
     exact Xb1 (by unfold Xek; rw [Xal (by simp)]; rfl)
    ·
     intro c hc ih2
     refine lgo (y := (((c + 1 : Nat) : Int), Ymq p x y (8 * r + (c + 1)))) ?_ ih2
     unfold Xek
     simp only
     rw [Xaj (by omega), wk (e := x + (c : Int)) (by omega) (by omega), wk (e := y + (r : Int)) (by omega) (by omega), Yel ok, Xad, Xai (by rw [Xto]; simp only [List.length_singleton]; omega), wk (e := (c : Int) + 1) (by omega) (by omega)]
     have e2 : Yky p (x + (c : Int)) (y + (r : Int)) = Yro p x y (8 * r + c) := by
      unfold Yro
      rw [show (8 * r + c) % 8 = c by omega, show (8 * r + c) / 8 = r by omega]
     rw [e2, ← Ym3]
     rfl
   have i0 := inner 0 (by omega)
   rw [Xaj (by omega)]
   refine (Xeu i0).trans ?_
   rw [wk (e := (r : Int) + 1) (by omega) (by omega)]
   rfl
 have := key 0 (by omega)
 exact (Xeu this).trans rfl
theorem Yej (l : List Int) (hl : l.length ≤ 9223372036854775806) : Xd1 l 64 0 255 = some (Xmw l) := by
 rw [Xmk l _ _ _ hl]
 have : ((l.length : Int) == 64) = decide (l.length = 64) := by rw [Bool.eq_iff_iff]; simp only [beq_iff_eq, decide_eq_true_eq]; omega
 rw [this, Bool.and_comm]
 rfl
def Xle (p : Pic) (x y : Int) : Bool := decide (0 ≤ x ∧ x ≤ p.Wide - 8 ∧ 0 ≤ y ∧ y ≤ p.High - 8)
theorem Yam {p : Pic} (ok : Xcc p = true) (x y : Int) (hx : x.tmod 8 = 0) (hy : y.tmod 8 = 0) (h : Xle p x y = true) : Xc1 p x y = some true := by
 obtain ⟨k1, k2, k3⟩ := Xbo ok
 unfold Xle at h
 rw [decide_eq_true_eq] at h
 unfold Xc1
 rw [Xai (by omega), hx, Xai (by omega), hy, wk (e := p.Wide - 8) (by omega) (by omega), wk (e := p.High - 8) (by omega) (by omega), Xan, Xad, Xan, Xad, decide_eq_true (by omega), decide_eq_true (by omega)]
 rfl
def rd (x : List Int) (i : Int) : Int := x.getD i.toNat 0
theorem Ywx (x : List Int) (i : Int) : x.getD i.toNat 0 = rd x i := rfl
theorem Xob (s : ByteArray) (i : Int) : rd (Xav s) i = Xb7 s i := by
 unfold rd Xav Xb7
 by_cases h : i.toNat < s.size
 ·
  rw [dif_pos h, List.getD_eq_getElem?_getD, List.getElem?_map, Array.getElem?_toList, Array.getElem?_eq_getElem h]
  rfl
 ·
  rw [dif_neg h, List.getD_eq_getElem?_getD, List.getElem?_eq_none (by rw [List.length_map, Array.length_toList]; exact Nat.le_of_not_lt h)]
  rfl
def tz (x : List Int) : Nat := (x.reverse.takeWhile (· == 0)).length
theorem Yhc (x : List Int) : tz (x ++ [0]) = tz x + 1 := by simp [tz, List.takeWhile_cons]
theorem Yum (x : List Int) (b : Int) (h : b ≠ 0) : tz (x ++ [b]) = 0 := by simp [tz, List.takeWhile_cons, h]
theorem Yx9 (x : List Int) : tz x ≤ x.length := by
 have := List.Sublist.length_le (List.takeWhile_sublist (fun a : Int => a == 0) (l := x.reverse))
 simpa [tz] using this
theorem Yty (x : List Int) (b c : Int) : rd (x ++ [b, c]) ((x.length : Int) + 1) = c ∧ rd (x ++ [b, c]) (x.length : Int) = b := by
 constructor
 ·
  simp [rd, List.getD_eq_getElem?_getD, show ((x.length : Int) + 1).toNat = x.length + 1 from by omega]
 ·
  simp [rd, List.getD_eq_getElem?_getD]
theorem Ywz (x : List Int) : 2 ≤ tz x ↔ (2 ≤ x.length ∧ rd x ((x.length : Int) - 1) = 0 ∧ rd x ((x.length : Int) - 2) = 0) := by
 rcases List.eq_nil_or_concat x with rfl | ⟨y, c, rfl⟩
 ·
  simp [tz]
 ·
  rcases List.eq_nil_or_concat y with rfl | ⟨z, b, rfl⟩
  ·
   constructor
   ·
    intro h; have := Yx9 ([].concat c); simp at this h; omega
   ·
    intro h; simp at h
  ·
   simp only [List.concat_eq_append, List.append_assoc, List.singleton_append]
   have e1 := (Yty z b c).1
   have e2 := (Yty z b c).2
   rw [show (((z ++ [b, c]).length : Nat) : Int) - 1 = (z.length : Int) + 1 by simp; omega, show (((z ++ [b, c]).length : Nat) : Int) - 2 = (z.length : Int) by simp, e1, e2]
   by_cases hc : c = 0
   ·
    by_cases hb : b = 0
    ·
     subst hc; subst hb
     rw [show z ++ [(0 : Int), 0] = (z ++ [0]) ++ [0] by simp, Yhc, Yhc]
     simp
    ·
     subst hc
     rw [show z ++ [b, (0 : Int)] = (z ++ [b]) ++ [0] by simp, Yhc, Yum _ _ hb]
     simp [hb]
   ·
    rw [show z ++ [b, c] = (z ++ [b]) ++ [c] by simp, Yum _ _ hc]
    simp [hc]
theorem Xpf (s : ByteArray) : strOfNums (Xav s) = s := by
 apply ByteArray.ext
 apply Array.ext'
 simp only [strOfNums, Xav, List.map_map]
 conv => rhs; rw [← List.map_id s.data.toList]
 refine List.map_congr_left fun c _ => ?_
 simp
theorem Xy5 {a b : ByteArray} : a.toList = b.toList ↔ a = b := by
 constructor
 ·
  intro h
  rw [ByteArray.toList_eq, ByteArray.toList_eq] at h
  exact ByteArray.ext (Array.ext' h)
 ·
  intro h; rw [h]
theorem Yij (s : ByteArray) (i j : Nat) : Xav (s.extract i j) = ((Xav s).take j).drop i := by
 simp [Xav, ByteArray.data_extract, List.map_drop, List.map_take, List.drop_take]
def Xn0 (x : List Int) (b : Int) : List Int := (if b < 4 ∧ 2 ≤ tz x then x ++ [3] else x) ++ [b]
def Ys6 (x : List Int) (t : List Int) : List Int := t.foldl Xn0 x
theorem Yva (x : List Int) : Ys6 x [] = x := rfl
theorem Ys8 (x : List Int) (b : Int) (t : List Int) : Ys6 x (b :: t) = Ys6 (Xn0 x b) t := rfl
theorem Ylw (a : List Int) (i : Nat) (h : i < a.length) : a.drop i = rd a i :: a.drop (i + 1) := by
 rw [List.drop_eq_getElem_cons h]; simp [rd, List.getD_eq_getElem?_getD, List.getElem?_eq_getElem h]
def Yvb (a : ByteArray) : ByteArray × Bool := if 1 ≤ a.size ∧ a.size ≤ 60000 ∧ Xb7 a ((a.size : Int) - 1) ≠ 0 then (strOfNums (Ys6 [] (Xav a)), true) else ((⟨#[]⟩ : ByteArray), false)
def unL : List Int → List Int → List Int
 | _, [] => []
 | x, c :: t => (if c = 3 ∧ 2 ≤ tz x then [] else [c]) ++ unL (x ++ [c]) t
theorem Xsd : ∀ (t x : List Int), (unL x t).length ≤ t.length
 | [], x => by simp [unL]
 | c :: t, x => by
  rw [unL, List.length_append, List.length_cons]
  have := Xsd t (x ++ [c])
  split <;> simp <;> omega
def unV (a : ByteArray) : ByteArray × Bool := if Yvb (strOfNums (unL [] (Xav a))) = (a, true) then (strOfNums (unL [] (Xav a)), true) else ((⟨#[]⟩ : ByteArray), false)
theorem Xlz (a : List Int) (i : Nat) (h : i < a.length) : a.take (i + 1) = a.take i ++ [rd a i] := by
 rw [List.take_succ_eq_append_getElem h]; simp [rd, List.getD_eq_getElem?_getD, List.getElem?_eq_getElem h]
theorem Ytz (a : List Int) (i : Int) (j : Nat) (h : i.toNat < j) : rd (a.take j) i = rd a i := by
 simp [rd, List.getD_eq_getElem?_getD, List.getElem?_take, h]
theorem Yrg (a : ByteArray) (i : Nat) (h : i < a.size) : unL ((Xav a).take i) ((Xav a).drop i) = (if Xb7 a i = 3 ∧ 2 ≤ tz ((Xav a).take i) then [] else [Xb7 a i]) ++ unL ((Xav a).take (i + 1)) ((Xav a).drop (i + 1)) := by
 rw [Ylw _ _ (by rw [Xa2]; exact h), unL, Xob, Xlz _ _ (by rw [Xa2]; exact h), Xob]
theorem Yxq (x : List Int) (i : Int) (h : x.length ≤ i.toNat) : rd x i = 0 := by
 simp [rd, List.getD_eq_getElem?_getD, List.getElem?_eq_none h]
def Yhh (L : List Int) : Prop := rd L 0 = 0 ∧ rd L 1 = 0 ∧ rd L 2 = 1
instance (L : List Int) : Decidable (Yhh L) := by unfold Yhh; infer_instance
def Xnm (p : Int) : List Int → List Int
 | [] => []
 | c :: r => if Yhh (c :: r) then p :: Xnm (p + 1) r else Xnm (p + 1) r
theorem Xu2 (L : List Int) (h : Yhh L) : ∃ r, L = 0 :: 0 :: 1 :: r := by
 obtain ⟨h0, h1, h2⟩ := h
 match L, h0, h1, h2 with
 | [], _, _, h2 => simp [rd] at h2
 | [_], _, _, h2 => simp [rd] at h2
 | [_, _], _, _, h2 => simp [rd] at h2
 | a :: b :: c :: r, h0, h1, h2 => simp [rd] at h0 h1 h2; exact ⟨r, by rw [h0, h1, h2]⟩
theorem Yr7 (p : Int) (L : List Int) (h : L.length ≤ 2) : Xnm p L = [] := by
 match L, h with
 | [], _ => rfl
 | [_], _ => rw [Xnm, if_neg (by simp [Yhh, rd]), Xnm]
 | [_, _], _ => rw [Xnm, if_neg (by simp [Yhh, rd]), Xnm, if_neg (by simp [Yhh, rd]), Xnm]
 | _ :: _ :: _ :: _, h => simp at h
theorem Xr9 (L : List Int) (i : Nat) (j : Int) (hj : 0 ≤ j) : rd (L.drop i) j = rd L ((i : Int) + j) := by
 simp [rd, List.getD_eq_getElem?_getD, show ((i : Int) + j).toNat = i + j.toNat by omega]
theorem Yyq (s : ByteArray) (i : Nat) (h : i + 3 ≤ s.size) : (s.extract i (i + 3)).toList = ([0, 0, 1] : List UInt8) ↔ Yhh ((Xav s).drop i) := by
 have hl := Xa2 s
 have e : (s.extract i (i + 3)).toList = ([0, 0, 1] : List UInt8) ↔ Xav (s.extract i (i + 3)) = [0, 0, 1] := by
  rw [ByteArray.toList_eq]
  constructor
  ·
   intro h; unfold Xav; rw [h]; rfl
  ·
   intro h
   have : s.extract i (i + 3) = strOfNums [0, 0, 1] := by rw [← Xpf (s.extract i (i + 3)), h]
   rw [this]; rfl
 rw [e, Yij]
 have h3 : ((Xav s).take (i + 3)).drop i = [rd (Xav s) i, rd (Xav s) ((i + 1 : Nat) : Int), rd (Xav s) ((i + 2 : Nat) : Int)] := by
  rw [show i + 3 = i + 2 + 1 by rfl, Xlz _ _ (by omega), Xlz _ _ (by omega), Xlz _ _ (by omega), List.append_assoc, List.append_assoc, List.drop_append_of_le_length (by rw [List.length_take]; omega), List.drop_eq_nil_of_le (by rw [List.length_take]; omega)]
  rfl
 rw [h3]
 unfold Yhh
 rw [Xr9 _ _ _ (by omega), Xr9 _ _ _ (by omega), Xr9 _ _ _ (by omega), Int.add_zero, show ((i + 1 : Nat) : Int) = (i : Int) + 1 by omega, show ((i + 2 : Nat) : Int) = (i : Int) + 2 by omega]
 simp
theorem Ywl (a : ByteArray) (hs : a.size ≤ 60000) : (unV a).1.size ≤ 60000 := by
 unfold unV
 have := Xsd (Xav a) []
 rw [Xa2] at this
 split
 ·
  rw [strOfNums_size]; omega
 ·
  simp [ByteArray.size]
theorem Ys7 (a : ByteArray) (x : List Int) (i : Nat) (h : i < a.size) : Ys6 x ((Xav a).drop i) = Ys6 (Xn0 x (Xb7 a i)) ((Xav a).drop (i + 1)) := by
 rw [Ylw _ i (by rw [Xa2]; exact h), Ys8, Xob]
theorem Ys9 (a : ByteArray) (x : List Int) : Ys6 x ((Xav a).drop a.size) = x := by
 rw [List.drop_eq_nil_of_le (by rw [Xa2]; omega), Yva]
theorem Yde (x : List Int) (b : Int) : (Xn0 x b).length ≤ x.length + 2 := by unfold Xn0; split <;> simp
theorem Xwt (a : ByteArray) (h : a.size ≤ 60000) : Xg2 a = some (strOfNums (Ys6 [] (Xav a))) := by
 have hm : maxLen = 9223372036854775807 := rfl
 unfold Xg2
 have key : ∀ i : Nat, i ≤ a.size → ∀ x : List Int, x.length ≤ 2 * i → loop (Xer a) ((i : Int), x) = some (Ys6 x ((Xav a).drop i)) := by
  refine Xdk _ ?_ ?_
  ·
   intro x _
   rw [Ys9]
   exact Xb1 (by unfold Xer; rw [Xal (by simp)])
  ·
   intro i hi ih x hx
   rw [Ys7 a x i hi]
   have hl := Yde x (Xb7 a i)
   refine lgo (y := (((i + 1 : Nat) : Int), Xn0 x (Xb7 a i))) ?_ (ih _ (by omega))
   have ht := Ywz x
   have hc : (sel (decide ((x.length : Int) ≥ 2)) (
     req (0 ≤ (Xaa .i64 ((x.length : Int) - 1)) ∧ (Xaa .i64 ((x.length : Int) - 1)) < x.length) <|
     req ((Xaa .i64 ((x.length : Int) - 1)).toNat < x.length) <|
     sel ((x.getD ((Xaa .i64 ((x.length : Int) - 1)).toNat) 0) == 0) (
     req (0 ≤ (Xaa .i64 ((x.length : Int) - 2)) ∧ (Xaa .i64 ((x.length : Int) - 2)) < x.length) <|
     req ((Xaa .i64 ((x.length : Int) - 2)).toNat < x.length) <|
     sel ((x.getD ((Xaa .i64 ((x.length : Int) - 2)).toNat) 0) == 0) (
     req (0 ≤ (i : Int) ∧ (i : Int) < a.size) <|
     some (decide ((Xb7 a i) < 4))) (
     some false)) (
     some false)) (
     some false)) = some (decide (Xb7 a i < 4 ∧ 2 ≤ tz x)) := by
    rw [wk (e := (x.length : Int) - 1) (by omega) (by omega), wk (e := (x.length : Int) - 2) (by omega) (by omega)]
    by_cases h2 : (x.length : Int) ≥ 2
    ·
     rw [Xaj h2, Xai (by omega), Xai (by omega), Xai (by omega), Xai (by omega), Xai (by omega), Ywx, Ywx]
     by_cases h3 : rd x ((x.length : Int) - 1) = 0
     ·
      rw [Xbh (by simpa using h3)]
      by_cases h4 : rd x ((x.length : Int) - 2) = 0
      ·
       rw [Xbh (by simpa using h4)]
       have : 2 ≤ tz x := ht.2 ⟨by omega, h3, h4⟩
       congr 1; rw [decide_eq_decide]; omega
      ·
       rw [Xa9 (by simpa using h4), decide_eq_false (fun h => h4 (ht.1 h.2).2.2)]
     ·
      rw [Xa9 (by simpa using h3), decide_eq_false (fun h => h3 (ht.1 h.2).2.1)]
    ·
     rw [Xal h2, decide_eq_false (fun h => by have := (ht.1 h.2).1; omega)]
   unfold Xer
   simp only
   rw [Xaj (by omega), hc, Xad]
   unfold Xn0
   by_cases hp : Xb7 a i < 4 ∧ 2 ≤ tz x
   ·
    rw [Xaj hp, if_pos hp, Xai (by simp only [List.length_singleton]; omega), Xad, Xai (by omega), Xai (by simp only [List.length_append, List.length_singleton]; omega), wk (by omega) (by omega)]
    rfl
   ·
    rw [Xal hp, if_neg hp, Xad, Xai (by omega), Xai (by simp only [List.length_singleton]; omega), wk (by omega) (by omega)]
    rfl
 exact (Xeu (key 0 (by omega) [] (by simp))).trans rfl
theorem Yf2 (a : ByteArray) (hs : a.size ≤ 9223372036854775807) : Xlu a = some (Yvb a) := by
 unfold Xlu Yvb
 by_cases h : (a.size : Int) = 0
 ·
  rw [Xbh (by simpa using h), Xad, Xax, if_neg (by omega)]
 ·
  rw [Xa9 (by simpa using h)]
  by_cases h1 : (a.size : Int) > 60000
  ·
   rw [Xaj h1, Xad, Xax, if_neg (by omega)]
  ·
   rw [Xal h1, wk (by omega) (by omega), Xai (by omega), Xad, Xwt a (by omega), Xad]
   by_cases h2 : Xb7 a ((a.size : Int) - 1) = 0
   ·
    rw [Xbh (by simpa using h2), if_neg (fun hh => hh.2.2 h2)]
   ·
    rw [Xa9 (by simpa using h2), if_pos ⟨by omega, by omega, h2⟩]
theorem Xxf (a : ByteArray) (h : a.size ≤ 60000) : loop (Xe7 a) (0, 0, []) = some (Ys6 [] (Xav a)) := by
 have hm : maxLen = 9223372036854775807 := rfl
 have key : ∀ i : Nat, i ≤ a.size → ∀ x : List Int, x.length ≤ 2 * i → loop (Xe7 a) ((tz x : Int), (i : Int), x) = some (Ys6 x ((Xav a).drop i)) := by
  refine Xdk _ ?_ ?_
  ·
   intro x _
   rw [Ys9]
   exact Xb1 (by unfold Xe7; rw [Xal (by simp)])
  ·
   intro i hi ih x hx
   rw [Ys7 a x i hi]
   have hl := Yde x (Xb7 a i)
   refine lgo (y := ((tz (Xn0 x (Xb7 a i)) : Int), ((i + 1 : Nat) : Int), Xn0 x (Xb7 a i))) ?_ (ih _ (by omega))
   have hz := Yx9 x
   have hc : (req (0 ≤ (i : Int) ∧ (i : Int) < a.size) <| sel (decide ((Xb7 a i) < 4)) (some (decide ((tz x : Int) ≥ 2))) (some false)) = some (decide (Xb7 a i < 4 ∧ 2 ≤ tz x)) := by
    rw [Xai (by omega), Xcj]
    congr 1
    rw [Bool.eq_iff_iff]
    simp only [Bool.and_eq_true, decide_eq_true_eq]
    omega
   have Yav : ∀ (y : List Int) (z : Int), z = (tz y : Int) → z ≤ 200000 → sel (Xb7 a i == 0) (some (Xaa .i64 (z + 1), y ++ [Xb7 a i])) (some (0, y ++ [Xb7 a i])) = some ((tz (y ++ [Xb7 a i]) : Int), y ++ [Xb7 a i]) := by
    intro y z hz hz2
    by_cases h0 : Xb7 a i = 0
    ·
     rw [Xbh (by simpa using h0), h0, Yhc, hz, wk (by omega) (by omega)]; rfl
    ·
     rw [Xa9 (by simpa using h0), Yum _ _ h0]; rfl
   unfold Xe7
   simp only
   rw [Xaj (by omega), hc, Xad]
   unfold Xn0
   by_cases hp : Xb7 a i < 4 ∧ 2 ≤ tz x
   ·
    rw [Xaj hp, if_pos hp, Xai (by simp only [List.length_singleton]; omega), Xad, Xai (by omega), Xai (by simp only [List.length_append, List.length_singleton]; omega), Xai (by omega)]
    simp only
    rw [Yav (x ++ [3]) 0 (by rw [Yum _ _ (by decide)]; rfl) (by omega), Xad, wk (e := (i : Int) + 1) (by omega) (by omega)]
    rfl
   ·
    rw [Xal hp, if_neg hp, Xad, Xai (by omega), Xai (by simp only [List.length_singleton]; omega), Xai (by omega)]
    simp only
    rw [Yav x _ rfl (by omega), Xad, wk (e := (i : Int) + 1) (by omega) (by omega)]
    rfl
 exact key 0 (by omega) [] (by simp)
theorem Ydv (a : ByteArray) (hs : a.size ≤ 9223372036854775807) : Xli a = some (Yvb a) := by
 unfold Xli Yvb
 rw [Yuc]
 by_cases h : a.size = 0
 ·
  rw [Xaj h, Xad, Xax, if_neg (by omega)]
 ·
  rw [Xal h]
  by_cases h1 : (a.size : Int) > 60000
  ·
   rw [Xaj h1, Xad, Xax, if_neg (by omega)]
  ·
   rw [Xal h1, wk (e := (a.size : Int) - 1) (by omega) (by omega), Xai (by omega), Xad]
   by_cases h2 : Xb7 a ((a.size : Int) - 1) = 0
   ·
    rw [Xbh (by simpa using h2), if_neg (fun hh => hh.2.2 h2)]
   ·
    rw [Xa9 (by simpa using h2), if_pos ⟨by omega, by omega, h2⟩, Xai (by omega), Xbn (by omega), wk (e := (a.size : Int) / 2) (by omega) (by omega), wk (e := (a.size : Int) + (a.size : Int) / 2) (by omega) (by omega), Xai (by omega)]
    exact (Xeu (Xxf a (by omega))).trans rfl
theorem Yw0 (a : ByteArray) : (bnd (sel (Yvb (strOfNums (unL [] (Xav a)))).2 (some (!((Yvb (strOfNums (unL [] (Xav a)))).1.toList == a.toList))) (some true)) fun v13 => sel v13 (some ((⟨#[]⟩ : ByteArray), false)) (some ((strOfNums (unL [] (Xav a))), true))) = some (unV a) := by
 unfold unV
 by_cases h1 : (Yvb (strOfNums (unL [] (Xav a)))).2 = true
 ·
  rw [h1, Xax, Xad, Yim]
  by_cases h2 : (Yvb (strOfNums (unL [] (Xav a)))).1 = a
  ·
   rw [if_pos (Prod.ext h2 h1), h2, Xbh (by simp)]
  ·
   rw [if_neg (fun h => h2 (by rw [h])), Xa9 (by rw [beq_eq_false_iff_ne]; exact fun h => h2 (Xy5.1 h))]
 ·
  rw [Xa9 (by simpa using h1), Xad, Xax, if_neg (fun h => h1 (by rw [h]))]
theorem Xyx (a : ByteArray) (hs : a.size ≤ 60000) : Xge a = some (unV a) := by
 have hm : maxLen = 9223372036854775807 := rfl
 unfold Xge
 rw [Xal (by omega)]
 have hl := Xa2 a
 have key : ∀ i : Nat, i ≤ a.size → ∀ o : List Int, o.length ≤ i → loop (Xd2 a) ((i : Int), o) = some (o ++ unL ((Xav a).take i) ((Xav a).drop i)) := by
  refine Xdk _ ?_ ?_
  ·
   intro o ho
   rw [List.drop_eq_nil_of_le (by omega), unL, List.append_nil]
   exact Xb1 (by unfold Xd2; rw [Xal (by simp)])
  ·
   intro i hi ih o ho
   rw [Yrg a i hi]
   have ht := Ywz ((Xav a).take i)
   have htl : ((Xav a).take i).length = i := by rw [List.length_take]; omega
   rw [htl] at ht
   have hc : (sel (decide ((i : Int) ≥ 2)) (
     req (0 ≤ (i : Int) ∧ (i : Int) < a.size) <|
     sel ((Xb7 a i) == 3) (
     req (0 ≤ (Xaa .i64 ((i : Int) - 1)) ∧ (Xaa .i64 ((i : Int) - 1)) < a.size) <|
     sel ((Xb7 a (Xaa .i64 ((i : Int) - 1))) == 0) (
     req (0 ≤ (Xaa .i64 ((i : Int) - 2)) ∧ (Xaa .i64 ((i : Int) - 2)) < a.size) <|
     some ((Xb7 a (Xaa .i64 ((i : Int) - 2))) == 0)) (
     some false)) (
     some false)) (
     some false)) = some (decide (Xb7 a i = 3 ∧ 2 ≤ tz ((Xav a).take i))) := by
    rw [wk (e := (i : Int) - 1) (by omega) (by omega), wk (e := (i : Int) - 2) (by omega) (by omega)]
    by_cases h2 : (i : Int) ≥ 2
    ·
     rw [Ytz _ _ _ (by omega), Ytz _ _ _ (by omega), Xob, Xob] at ht
     rw [Xaj h2, Xai (by omega), Xai (by omega), Xai (by omega)]
     by_cases h3 : Xb7 a i = 3
     ·
      rw [Xbh (by simpa using h3)]
      by_cases h4 : Xb7 a ((i : Int) - 1) = 0
      ·
       rw [Xbh (by simpa using h4), Yc8]
       congr 1; rw [decide_eq_decide]
       exact ⟨fun h5 => ⟨h3, ht.2 ⟨by omega, h4, h5⟩⟩, fun h => (ht.1 h.2).2.2⟩
      ·
       rw [Xa9 (by simpa using h4), decide_eq_false (fun h => h4 (ht.1 h.2).2.1)]
     ·
      rw [Xa9 (by simpa using h3), decide_eq_false (fun h => h3 h.1)]
    ·
     rw [Xal h2, decide_eq_false (fun h => by have := (ht.1 h.2).1; omega)]
   by_cases hp : Xb7 a i = 3 ∧ 2 ≤ tz ((Xav a).take i)
   ·
    rw [if_pos hp, List.nil_append]
    refine lgo (y := (((i + 1 : Nat) : Int), o)) ?_ (ih o (by omega))
    unfold Xd2
    simp only
    rw [Xaj (by omega), hc, Xad, Xaj hp, Xad, wk (by omega) (by omega)]
    rfl
   ·
    rw [if_neg hp, ← List.append_assoc]
    refine lgo (y := (((i + 1 : Nat) : Int), o ++ [Xb7 a i])) ?_ (ih _ (by simp; omega))
    unfold Xd2
    simp only
    rw [Xaj (by omega), hc, Xad, Xal hp, Xai (by omega), Xai (by simp only [List.length_singleton]; omega), Xad, wk (by omega) (by omega)]
    rfl
 refine (Xeu (key 0 (by omega) [] (by simp))).trans ?_
 rw [List.take_zero, List.drop_zero, List.nil_append]
 have hb := Xsd (Xav a) []
 rw [Yf2 _ (by rw [strOfNums_size]; omega), Xad]
 exact Yw0 a
theorem Xxt (a : ByteArray) (hs : a.size ≤ 60000) : Xh7 a = some (unV a) := by
 have hm : maxLen = 9223372036854775807 := rfl
 unfold Xh7
 rw [Xai (by omega)]
 have hl := Xa2 a
 have key : ∀ i : Nat, i ≤ a.size → ∀ o : List Int, o.length ≤ i → loop (Xd0 a) ((tz ((Xav a).take i) : Int), (i : Int), o) = some (o ++ unL ((Xav a).take i) ((Xav a).drop i)) := by
  refine Xdk _ ?_ ?_
  ·
   intro o ho
   rw [List.drop_eq_nil_of_le (by omega), unL, List.append_nil]
   exact Xb1 (by unfold Xd0; rw [Xal (by simp)])
  ·
   intro i hi ih o ho
   rw [Yrg a i hi]
   have htl : ((Xav a).take i).length = i := by rw [List.length_take]; omega
   have hz := Yx9 ((Xav a).take i)
   have hz1 : tz ((Xav a).take (i + 1)) = if Xb7 a i = 0 then tz ((Xav a).take i) + 1 else 0 := by
    rw [Xlz _ _ (by omega), Xob]
    split
    ·
     rename_i h0; rw [h0, Yhc]
    ·
     rename_i h0; rw [Yum _ _ h0]
   have hc : (sel (decide ((tz ((Xav a).take i) : Int) ≥ 2)) (
     req (0 ≤ (i : Int) ∧ (i : Int) < a.size) <|
     some ((Xb7 a i) == 3)) (
     some false)) = some (decide (Xb7 a i = 3 ∧ 2 ≤ tz ((Xav a).take i))) := by
    rw [Xai (by omega), Xcj]
    congr 1
    rw [Bool.eq_iff_iff]
    simp only [Bool.and_eq_true, decide_eq_true_eq, beq_iff_eq]
    omega
   by_cases hp : Xb7 a i = 3 ∧ 2 ≤ tz ((Xav a).take i)
   ·
    rw [if_pos hp, List.nil_append]
    refine lgo (y := ((tz ((Xav a).take (i + 1)) : Int), ((i + 1 : Nat) : Int), o)) ?_ (ih o (by omega))
    rw [hz1, if_neg (by omega)]
    unfold Xd0 Ynw
    simp only
    rw [Xaj (by omega), hc, Xad, Xaj hp, Xad, wk (by omega) (by omega)]
    rfl
   ·
    rw [if_neg hp, ← List.append_assoc]
    refine lgo (y := ((tz ((Xav a).take (i + 1)) : Int), ((i + 1 : Nat) : Int), o ++ [Xb7 a i])) ?_ (ih _ (by simp; omega))
    rw [hz1]
    unfold Xd0 Ynw
    simp only
    rw [Xaj (by omega), hc, Xad, Xal hp, Xai (by omega)]
    by_cases h0 : Xb7 a i = 0
    ·
     rw [Xbh (by simpa using h0), if_pos h0, Xai (by omega), Xai (by simp only [List.length_singleton]; omega), Xad, wk (e := (i : Int) + 1) (by omega) (by omega), wk (by omega) (by omega)]
     rfl
    ·
     rw [Xa9 (by simpa using h0), if_neg h0, Xai (by omega), Xai (by simp only [List.length_singleton]; omega), Xad, wk (e := (i : Int) + 1) (by omega) (by omega)]
     rfl
 refine (Xeu (key 0 (by omega) [] (by simp))).trans ?_
 rw [List.take_zero, List.drop_zero, List.nil_append]
 have hb := Xsd (Xav a) []
 rw [Ydv _ (by rw [strOfNums_size]; omega), Xad]
 exact Yw0 a
theorem Yie (s : ByteArray) (hs : s.size ≤ 60000) : Xm5 s = some (Xnm 0 (Xav s)) := by
 have hm : maxLen = 9223372036854775807 := rfl
 unfold Xm5
 have hl := Xa2 s
 have key : ∀ i : Nat, i ≤ s.size → ∀ x : List Int, x.length ≤ i → loop (Xey s) ((i : Int), x) = some (x ++ Xnm i ((Xav s).drop i)) := by
  refine Xdk _ ?_ ?_
  ·
   intro x _
   rw [List.drop_eq_nil_of_le (by omega), Xnm, List.append_nil]
   exact Xb1 (by unfold Xey; simp only; rw [wk (by omega) (by omega), Xal (by omega)])
  ·
   intro i hi ih x hx
   by_cases h3 : i + 3 ≤ s.size
   ·
    have e3 : Xaa .i64 ((i : Int) + 3) = ((i + 3 : Nat) : Int) := by rw [wk (by omega) (by omega)]; omega
    have hh := Yyq s i h3
    have st : ∀ b : Bool, ((s.extract i (i + 3)).toList == (⟨#[0, 0, 1]⟩ : ByteArray).toList) = b → Xey s ((i : Int), x) = some (.go (((i + 1 : Nat) : Int), if b = true then x ++ [(i : Int)] else x)) := by
     intro b hb
     unfold Xey
     simp only
     rw [e3, Xaj (by omega), Xai (by omega), Int.toNat_natCast, Int.toNat_natCast, hb, wk (by omega) (by omega)]
     cases b with
     | true => rw [Xax, Xai (by simp only [List.length_singleton]; omega), Xad]; rfl
     | false => rw [Xaw, Xad]; rfl
    rw [Ylw _ _ (by omega)] at hh ⊢
    rw [Xnm]
    by_cases h : (s.extract i (i + 3)).toList = ([0, 0, 1] : List UInt8)
    ·
     rw [if_pos (hh.1 h)]
     have := ih (x ++ [(i : Int)]) (by simp; omega)
     rw [List.append_assoc] at this
     exact lgo (st true (by rw [h, ByteArray.toList_eq]; rfl)) this
    ·
     rw [if_neg (fun h' => h (hh.2 h'))]
     exact lgo (st false (by rw [beq_eq_false_iff_ne, ByteArray.toList_eq (⟨#[0, 0, 1]⟩ : ByteArray)]; exact h)) (ih x (by omega))
   ·
    rw [Yr7 _ _ (by rw [List.length_drop]; omega), List.append_nil]
    exact Xb1 (by unfold Xey; simp only; rw [wk (by omega) (by omega), Xal (by omega)])
 exact (Xeu (key 0 (by omega) [] (by simp))).trans rfl
noncomputable def Xuv (s : ByteArray) (v17 : Int × Int × List ByteArray) : Option (List ByteArray) :=
 bnd (
 bnd (
 sel (decide (v17.1 ≥ 0)) (
 some (decide (v17.1 ≤ v17.2.1))) (
 some false)) fun v39 =>
 sel v39 (
 bnd (loop (Xb9 s v17) v17.2.1) fun v45 =>
 req (0 ≤ v17.1 ∧ v17.1 ≤ v45 ∧ v45 ≤ (s.size : Int)) <|
 bnd (Xge (s.extract v17.1.toNat v45.toNat)) fun q48 =>
 bnd (
 sel q48.2 (
 some (decide ((v17.2.2.length : Int) < 400))) (
 some false)) fun v49 =>
 sel v49 (
 req ((v17.2.2.length + ([q48.1]).length) * 16 ≤ 140737488355328 ∧ v17.2.2.length + ([q48.1]).length ≤ maxLen) <|
 some (v17.2.2 ++ ([q48.1]))) (
 some v17.2.2)) (
 some v17.2.2)) fun v38 => some v38
theorem Yxa (z : Option (List ByteArray)) (c j : Int) : (bnd (bnd z fun v => some (c, v)) fun w => some (Lp.go (w.1, j, w.2)) : Option (Lp (Int × Int × List ByteArray) (List ByteArray))) = bnd (bnd z fun v => some v) fun y => some (Lp.go (c, j, y)) := by cases z <;> rfl
theorem Xse (s : ByteArray) (hs : s.size ≤ 60000) (b : Int) (i : Nat) (x : List ByteArray) (hi : i ≤ s.size) :
  Xb8 s (b, (i : Int), x) = if Yhh ((Xav s).drop i) ∨ i = s.size then bnd (Xuv s (b, (i : Int), x)) (fun y => some (.go ((i : Int) + 3, ((i + 1 : Nat) : Int), y))) else some (.go (b, ((i + 1 : Nat) : Int), x)) := by
 have hl := Xa2 s
 have hh : Yhh ((Xav s).drop i) ↔ Xb7 s i = 0 ∧ Xb7 s ((i : Int) + 1) = 0 ∧ Xb7 s ((i : Int) + 2) = 1 := by
  unfold Yhh
  rw [Xr9 _ _ _ (by omega), Xr9 _ _ _ (by omega), Xr9 _ _ _ (by omega), Int.add_zero, Xob, Xob, Xob]
 have hc : (sel (decide ((Xaa .i64 ((i : Int) + 2)) < (s.size : Int))) (
   req (0 ≤ (i : Int) ∧ (i : Int) < s.size) <|
   sel ((Xb7 s i) == 0) (
   req (0 ≤ (Xaa .i64 ((i : Int) + 1)) ∧ (Xaa .i64 ((i : Int) + 1)) < s.size) <|
   sel ((Xb7 s (Xaa .i64 ((i : Int) + 1))) == 0) (
   req (0 ≤ (Xaa .i64 ((i : Int) + 2)) ∧ (Xaa .i64 ((i : Int) + 2)) < s.size) <|
   some ((Xb7 s (Xaa .i64 ((i : Int) + 2))) == 1)) (
   some false)) (
   some false)) (
   some false)) = some (decide (Yhh ((Xav s).drop i))) := by
  rw [wk (e := (i : Int) + 1) (by omega) (by omega), wk (e := (i : Int) + 2) (by omega) (by omega)]
  by_cases h1 : (i : Int) + 2 < s.size
  ·
   rw [Xaj h1, Xai (by omega), Xai (by omega), Xai (by omega), Xcj, Xcj]
   congr 1
   rw [Bool.eq_iff_iff]
   simp only [Bool.and_eq_true, decide_eq_true_eq, beq_iff_eq]
   exact hh.symm
  ·
   rw [Xal h1, decide_eq_false (fun h => ?_)]
   have := (hh.1 h).2.2
   rw [← Xob, Yxq _ _ (by omega)] at this
   omega
 unfold Xb8
 simp only
 rw [Xaj (by omega), hc, Xad, wk (e := (i : Int) + 1) (by omega) (by omega), wk (e := (i : Int) + 3) (by omega) (by omega)]
 have hv : sel (decide (Yhh ((Xav s).drop i))) (some false) (some (decide ((i : Int) < (s.size : Int)))) = some (!decide (Yhh ((Xav s).drop i) ∨ i = s.size)) := by
  rw [Yv0]
  refine congrArg some ?_
  rw [Bool.eq_iff_iff]
  simp only [Bool.and_eq_true, Bool.not_eq_true', decide_eq_true_eq, decide_eq_false_iff_not]
  constructor
  ·
   intro ⟨g1, g2⟩ g
   rcases g with g | g
   ·
    exact g1 g
   ·
    omega
  ·
   intro g
   refine ⟨fun g1 => g (Or.inl g1), ?_⟩
   have : ¬ i = s.size := fun g1 => g (Or.inr g1)
   omega
 rw [hv, Xad, Yim, Yl4]
 by_cases hp : Yhh ((Xav s).drop i) ∨ i = s.size
 ·
  rw [if_pos hp, if_pos hp]
  have e1 : ((i + 1 : Nat) : Int) = (i : Int) + 1 := by omega
  rw [e1]
  unfold Xuv
  simp only
  exact Yxa _ _ _
 ·
  rw [if_neg hp, if_neg hp, Xad]
  rfl
theorem Xy6 (s : ByteArray) (b : Int) (x : List ByteArray) : Xb8 s (b, ((s.size + 1 : Nat) : Int), x) = some (.done x) := by
 unfold Xb8
 rw [Xal (by simp only; omega)]
theorem Ypk (s : ByteArray) (b i : Int) (x : List ByteArray) (h0 : 0 ≤ b) : ∀ e : Int, b ≤ e → e ≤ s.size → (s.size : Int) ≤ 60000 → ∃ e', loop (Xb9 s (b, i, x)) e = some e' ∧ b ≤ e' ∧ e' ≤ e := by
 intro e h1 h2 h3
 refine Yqt (f := Xb9 s (b, i, x)) (fun v => b ≤ v ∧ v ≤ s.size) (fun v => (v - b).toNat) (fun v o => b ≤ o ∧ o ≤ v) ?_ e ⟨h1, h2⟩
 intro v ⟨g1, g2⟩
 unfold Xb9
 simp only
 by_cases hv : v > b
 ·
  rw [Xaj hv, wk (e := v - 1) (by omega) (by omega), Xai (by omega), Xad]
  cases (Xb7 s (v - 1) == 0) with
  | true => exact .inr ⟨_, rfl, by omega, by omega, fun o ho => by omega⟩
  | false => exact .inl ⟨_, rfl, by omega⟩
 ·
  rw [Xal hv, Xad, Xaw]
  exact .inl ⟨_, rfl, by omega⟩
theorem Xuw (s : ByteArray) (b i : Int) (x : List ByteArray) (h : ¬ (0 ≤ b ∧ b ≤ i)) : Xuv s (b, i, x) = some x := by
 unfold Xuv
 simp only
 rw [Xcj, Xad, Xa9 (by rw [Bool.eq_false_iff]; simp only [ne_eq, Bool.and_eq_true, decide_eq_true_eq]; omega), Xad]
theorem Ydc (s : ByteArray) (hs : s.size ≤ 60000) (b i e : Int) (x : List ByteArray) (hx : x.length ≤ 400) (h0 : 0 ≤ b) (h1 : b ≤ i) (he : loop (Xb9 s (b, i, x)) i = some e) (h2 : b ≤ e) (h3 : e ≤ s.size) :
  Xuv s (b, i, x) = some (if (unV (s.extract b.toNat e.toNat)).2 = true ∧ x.length < 400 then x ++ [(unV (s.extract b.toNat e.toNat)).1] else x) := by
 have hm : maxLen = 9223372036854775807 := rfl
 unfold Xuv
 simp only
 rw [Xcj, Xad, Xbh (by simp only [Bool.and_eq_true, decide_eq_true_eq]; omega), he, Xad, Xai (by omega), Xyx _ (by rw [ByteArray.size_extract]; omega), Xad, Xcj, Xad]
 by_cases hp : (unV (s.extract b.toNat e.toNat)).2 = true ∧ x.length < 400
 ·
  rw [if_pos hp, Xbh (by rw [Bool.and_eq_true, decide_eq_true_eq]; exact ⟨hp.1, by omega⟩), Xai (by simp only [List.length_singleton]; omega), Xad]
 ·
  rw [if_neg hp, Xa9 (by rw [Bool.eq_false_iff]; simp only [ne_eq, Bool.and_eq_true, decide_eq_true_eq]; exact fun h => hp ⟨h.1, by omega⟩), Xad]
theorem Yrq (s : ByteArray) (hs : s.size ≤ 60000) (b : Int) (i : Nat) (x : List ByteArray) (hi : i ≤ s.size) (hx : x.length ≤ 400) (hxs : ∀ u ∈ x, u.size ≤ 60000) : ∃ y, Xuv s (b, (i : Int), x) = some y ∧ y.length ≤ 400 ∧ ∀ u ∈ y, u.size ≤ 60000 := by
 by_cases hb : 0 ≤ b ∧ b ≤ (i : Int)
 ·
  obtain ⟨e, he, h1, h2⟩ := Ypk s b i x hb.1 i hb.2 (by omega) (by omega)
  refine ⟨_, Ydc s hs b i e x hx hb.1 hb.2 he h1 (by omega), ?_, ?_⟩
  ·
   split
   ·
    simp; omega
   ·
    exact hx
  ·
   intro u hu
   split at hu
   ·
    rw [List.mem_append] at hu
    rcases hu with hu | hu
    ·
     exact hxs u hu
    ·
     rw [List.mem_singleton] at hu; rw [hu]; exact Ywl _ (by rw [ByteArray.size_extract]; omega)
   ·
    exact hxs u hu
 ·
  exact ⟨x, Xuw s b i x hb, hx, hxs⟩
def inB (B : Int) (l : List Int) : Prop := ∀ x ∈ l, -B ≤ x ∧ x ≤ B
theorem Yli {B C : Int} {l : List Int} (h : inB B l) (hc : B ≤ C) : inB C l := fun x hx => by have := h x hx; omega
theorem Xx0 {B : Int} {a b : List Int} (ha : inB B a) (hb : inB B b) : inB B (a ++ b) := fun x hx => (List.mem_append.1 hx).elim (ha x) (hb x)
theorem Ypg (B : Int) : inB B [] := fun x hx => by simp at hx
theorem Yte {B x : Int} (h : -B ≤ x ∧ x ≤ B) : inB B [x] := fun y hy => by rw [List.mem_singleton.1 hy]; exact h
theorem Ypi {B : Int} {l : List Int} (h : inB B l) (i : Nat) {y : Int} (hy : -B ≤ y ∧ y ≤ B) : inB B (l.set i y) := fun x hx => by
 rcases List.mem_or_eq_of_mem_set hx with hx | hx
 ·
  exact h x hx
 ·
  rw [hx]; exact hy
theorem Yph (n : Nat) {B : Int} (h : 0 ≤ B) : inB B (List.replicate n 0) := fun x hx => by rw [List.eq_of_mem_replicate hx]; omega
theorem Xq8 {B : Int} {l : List Int} (h : inB B l) {i : Nat} (hi : i < l.length) : -B ≤ l.getD i 0 ∧ l.getD i 0 ≤ B := h _ (by rw [Xci l i hi]; exact List.getElem_mem _)
theorem Yqi {B : Int} {l : List Int} (h : inB B l) (n : Nat) : inB B (l.take n) := fun x hx => h x (List.mem_of_mem_take hx)
theorem Yqh {B : Int} {l : List Int} (h : inB B l) (n : Nat) : inB B (l.drop n) := fun x hx => h x (List.mem_of_mem_drop hx)
theorem Xe5 {S : Type} {f : Int × S → Option (Lp (Int × S) S)} (n : Nat) (I : Nat → S → Prop) (hs : ∀ (i : Nat) (l : S), i < n → I i l → ∃ l', f ((i : Int), l) = some (.go (((i + 1 : Nat) : Int), l')) ∧ I (i + 1) l') (he : ∀ l, f ((n : Int), l) = some (.done l)) (l0 : S) (h0 : I 0 l0) : ∃ o, loop f (0, l0) = some o ∧ I n o := by
 have key : ∀ i : Nat, i ≤ n → ∀ l, I i l → ∃ o, loop f ((i : Int), l) = some o ∧ I n o := by
  refine Xdk _ ?_ ?_
  ·
   intro l h; exact ⟨l, Xb1 (he l), h⟩
  ·
   intro i hi ih l h
   obtain ⟨l', e, h'⟩ := hs i l hi h
   obtain ⟨o, e2, h2⟩ := ih l' h'
   exact ⟨o, lgo e e2, h2⟩
 exact key 0 (by omega) l0 h0
theorem Xnn {S : Type} {f : S × Int → Option (Lp (S × Int) S)} (n : Nat) (I : Nat → S → Prop) (hs : ∀ (i : Nat) (l : S), i < n → I i l → ∃ l', f (l, (i : Int)) = some (.go (l', ((i + 1 : Nat) : Int))) ∧ I (i + 1) l') (he : ∀ l, f (l, (n : Int)) = some (.done l)) (l0 : S) (h0 : I 0 l0) : ∃ o, loop f (l0, 0) = some o ∧ I n o := by
 have key : ∀ i : Nat, i ≤ n → ∀ l, I i l → ∃ o, loop f (l, (i : Int)) = some o ∧ I n o := by
  refine Xdk _ ?_ ?_
  ·
   intro l h; exact ⟨l, Xb1 (he l), h⟩
  ·
   intro i hi ih l h
   obtain ⟨l', e, h'⟩ := hs i l hi h
   obtain ⟨o, e2, h2⟩ := ih l' h'
   exact ⟨o, lgo e e2, h2⟩
 exact key 0 (by omega) l0 h0
theorem Xfr (l : List Int) (i j : Nat) (y : Int) (hi : i < l.length) : (l.set i y).getD j 0 = if i = j then y else l.getD j 0 := by
 rw [List.getD_eq_getElem?_getD, List.getElem?_set, List.getD_eq_getElem?_getD]
 by_cases h : i = j
 ·
  subst h; rw [if_pos rfl, if_pos rfl, if_pos hi]; rfl
 ·
  rw [if_neg h, if_neg h]
theorem Xr6 {f : Int × List Int → Option (Lp (Int × List Int) (List Int))} (n : Nat) (P Q : Int → Prop) (hs : ∀ (i : Nat) (l : List Int), i < n → l.length = n → P (l.getD i 0) → ∃ y, f ((i : Int), l) = some (.go (((i + 1 : Nat) : Int), l.set i y)) ∧ Q y) (he : ∀ l, f ((n : Int), l) = some (.done l)) (l0 : List Int) (h0 : l0.length = n) (hb : ∀ x ∈ l0, P x) : ∃ o, loop f (0, l0) = some o ∧ o.length = n ∧ ∀ x ∈ o, Q x := by
 obtain ⟨o, e, h1, h2, _⟩ := Xe5 (f := f) n (fun i l => l.length = n ∧ (∀ j, j < i → Q (l.getD j 0)) ∧ ∀ j, i ≤ j → j < n → P (l.getD j 0)) (by
  intro i l hi ⟨g1, g2, g3⟩
  obtain ⟨y, e, hy⟩ := hs i l hi g1 (g3 i (Nat.le_refl _) hi)
  refine ⟨_, e, by rw [List.length_set]; exact g1, fun j hj => ?_, fun j hj hj2 => ?_⟩
  ·
   rw [Xfr l i j y (by omega)]
   by_cases h : i = j
   ·
    rw [if_pos h]; exact hy
   ·
    rw [if_neg h]; exact g2 j (by omega)
  ·
   rw [Xfr l i j y (by omega), if_neg (by omega)]; exact g3 j (by omega) hj2) he l0 ⟨h0, fun j hj => by omega, fun j _ hj => hb _ (by rw [Xci l0 j (by omega)]; exact List.getElem_mem _)⟩
 refine ⟨o, e, h1, fun x hx => ?_⟩
 obtain ⟨j, hj, rfl⟩ := List.getElem_of_mem hx
 have := h2 j (by omega)
 rwa [Xci o j hj] at this
theorem Xi3 (l : List Int) (n B : Int) (hn : (l.length : Int) = n) (hn2 : n ≤ 1000000) (hB : 0 ≤ B ∧ B ≤ 100000000) (h : inB B l) : Xdn l n B = some true := by
 unfold Xdn
 rw [Xa9 (by simp only [bne_eq_false_iff_eq]; exact hn), Xo5 l.length (f := Xdx l n B) (by
  intro i hi
  have := Xq8 h hi
  unfold Xdx
  rw [Xaj (by omega), Xai (by omega), wk (e := 0 - B) (by omega) (by omega), Xak, Xad, Int.toNat_natCast, decide_eq_true (by omega), Bool.not_true, Xaw, wk (by omega) (by omega)]
  rfl) (by unfold Xdx; rw [Xal (by omega)]), Xad]
def Xv6 (n i : Int) (v17 : Int × Int) : Option (Lp (Int × Int) (Ou Unit Int)) :=
 sel (decide (v17.2 ≤ (Xaa .i64 ((Xaa .i64 (2 * n)) - 2)))) (
 bnd (it (Xnf n i v17) 20 (v17.1, 0)) fun o47 => match o47 with
 | .out v43 => (
 some (.go (v43, Xaa .i64 (v17.2 + 1))))
 | .ret r => some (.done (.ret r))) (
 some (.done (.out ())))
theorem Yon {n i : Int} {v : Int × Int} {x : Lp (Int × Int) (Ou Unit Int)} (h : Xv6 n i v = some x) : Xjz n i v = some x := by
 unfold Xv6 at h
 unfold Xjz
 rcases Xp0 h with ⟨hb, h⟩ | ⟨hb, h⟩
 ·
  rw [hb, Xax]
  obtain ⟨a, h1, h2⟩ := Xba h
  rw [Xhz.2 ⟨20, h1⟩, Xad]
  exact h2
 ·
  rw [hb, Xaw]; exact h
theorem Yvj {V O : Type} {f g : V → Option (Lp V O)} (hf : ∀ v y, f v = some y → g v = some y) {o : O} : ∀ (k : Nat) (v : V), it f k v = some o → it g k v = some o
 | 0, v, h => by cases h
 | k + 1, v, h => by
  rw [it] at h ⊢
  cases e : f v with
  | none => rw [e] at h; cases h
  | some s =>
   rw [e] at h
   rw [hf v s e]
   cases s with
   | go y => exact Yvj hf k y h
   | done o' => exact h
def Xgr (n i : Int) : Int := match it (Xv6 n i) 20 (0, 0) with | some (.ret q) => q | _ => -1
theorem Yvy : ∀ i : Fin 16, (0 ≤ Xgr 4 (i.val : Int) ∧ Xgr 4 (i.val : Int) < 16) := by decide +kernel
theorem Yvz : ∀ i : Fin 64, (0 ≤ Xgr 8 (i.val : Int) ∧ Xgr 8 (i.val : Int) < 64) := by decide +kernel
theorem Xnu (n : Int) (hn : n = 4 ∨ n = 8) (i : Nat) (hi : (i : Int) < n * n) : 0 ≤ Xgr n i ∧ Xgr n i < n * n := by
 rcases hn with rfl | rfl
 ·
  exact Yvy ⟨i, by omega⟩
 ·
  exact Yvz ⟨i, by omega⟩
theorem Xod (n : Int) (hn : n = 4 ∨ n = 8) (i : Nat) (hi : (i : Int) < n * n) : Xne n i = some (Xgr n i) := by
 have hp := Xnu n hn i hi
 unfold Xne
 have hw : Xaa .i64 (n * n) = n * n := by rcases hn with rfl | rfl <;> exact wk (by omega) (by omega)
 have hc : (sel (n != 4) (sel (n != 8) (some true) (sel (decide ((i : Int) < 0)) (some true) (some (decide ((i : Int) ≥ (Xaa .i64 (n * n))))))) (sel (decide ((i : Int) < 0)) (some true) (some (decide ((i : Int) ≥ (Xaa .i64 (n * n))))))) = some false := by
  rw [hw, Xal (show ¬ (i : Int) < 0 by omega), decide_eq_false (show ¬ (i : Int) ≥ n * n by omega)]
  rcases hn with rfl | rfl <;> rfl
 rw [hc, Xad, Xaw]
 unfold Xgr at hp ⊢
 cases e : it (Xv6 n i) 20 (0, 0) with
 | none => rw [e] at hp; simp only at hp; omega
 | some s =>
  rw [e] at hp
  have h := Yvj (fun v y => Yon (n := n) (i := i)) 20 _ e
  rw [Xhz.2 ⟨20, h⟩, Xad]
  cases s with
  | out u => simp only at hp; omega
  | ret q => rfl
theorem Xff (n : Int) (hn : n = 4 ∨ n = 8) (l : List Int) (B : Int) (hB : 0 ≤ B) (hl : (l.length : Int) = n * n) (hb : inB B l) : ∃ o, Xc5 n l = some (o, true) ∧ o.length = l.length ∧ inB B o := by
 have hm : maxLen = 9223372036854775807 := rfl
 have hw : Xaa .i64 (n * n) = n * n := by rcases hn with rfl | rfl <;> exact wk (by omega) (by omega)
 have hl2 : l.length ≤ 64 := by rcases hn with rfl | rfl <;> omega
 unfold Xc5
 have hc : (sel (n != 4) (sel (n != 8) (some true) (some ((l.length : Int) != (Xaa .i64 (n * n))))) (some ((l.length : Int) != (Xaa .i64 (n * n))))) = some false := by
  rw [hw, hl, bne_self_eq_false]
  rcases hn with rfl | rfl <;> rfl
 rw [hc, Xad, Xaw, Xai (by omega), Int.toNat_natCast]
 obtain ⟨o, e, h1, h2⟩ := Xe5 (f := Xcd n l) l.length (fun i s => s.length = l.length ∧ inB B s) (by
  intro i s hi ⟨g1, g2⟩
  have hp := Xnu n hn i (by omega)
  have ha := Xq8 hb hi
  unfold Xcd
  simp only
  rw [hw, Xaj (by omega), Xod n hn i (by omega), Xad, Xai (by omega), Xai (by omega), Xai (by omega), wk (by omega) (by omega), Int.toNat_natCast]
  exact ⟨_, rfl, by rw [List.length_set]; exact g1, Ypi g2 _ ha⟩) (by intro s; unfold Xcd; simp only; rw [hw, Xal (by omega)]) (List.replicate l.length 0) ⟨List.length_replicate, Yph _ hB⟩
 exact ⟨o, (Xeu e).trans rfl, h1, h2⟩
def Xic (u v : Int) : Int := match it Xie 10 (1, (IntKind.wrap .i64 (BitVec.ofInt (IntKind.bits .i64) u &&& BitVec.ofInt (IntKind.bits .i64) v).toNat)) with | some q => q | none => 7
theorem Yub : ∀ u v : Fin 8, (-1 ≤ Xic (u.val : Int) (v.val : Int) ∧ Xic (u.val : Int) (v.val : Int) ≤ 1) := by decide +kernel
theorem Xtg (u v : Nat) (hu : u < 8) (hv : v < 8) : ∃ s, Xgy u v = some s ∧ -1 ≤ s ∧ s ≤ 1 := by
 have h := Yub ⟨u, hu⟩ ⟨v, hv⟩
 simp only at h
 unfold Xgy
 rw [Xak, Xad, decide_eq_true (by omega), Xax, Xak, Xad, decide_eq_true (by omega), Bool.not_true, Xad, Xaw]
 unfold Xic at h
 cases e : it Xie 10 (1, (IntKind.wrap .i64 (BitVec.ofInt (IntKind.bits .i64) (u : Int) &&& BitVec.ofInt (IntKind.bits .i64) (v : Int)).toNat)) with
 | none => rw [e] at h; simp only at h; omega
 | some q =>
  rw [e] at h
  rw [Xhz.2 ⟨10, e⟩, Xad]
  exact ⟨q, rfl, h⟩
def Xp4 (qp : Int) : Int := if qp.tmod 6 = 0 then 10 else if qp.tmod 6 = 1 then 11 else if qp.tmod 6 = 2 then 13 else if qp.tmod 6 = 3 then 14 else if qp.tmod 6 = 4 then 16 else 18
def Xnl (qp : Int) : Int := match it (Xig qp) 10 (Xp4 qp, 0) with | some q => q | none => 0
theorem Yug : ∀ q : Fin 41, (10 ≤ Xnl (q.val : Int) ∧ Xnl (q.val : Int) ≤ 1152) := by decide +kernel
theorem Yjd (qp : Int) (h0 : 0 ≤ qp ∧ qp ≤ 40) : ∃ s, Xgz qp = some s ∧ 10 ≤ s ∧ s ≤ 1152 := by
 have h := Yug ⟨qp.toNat, by omega⟩
 simp only at h
 rw [show ((qp.toNat : Nat) : Int) = qp by omega] at h
 unfold Xgz
 rw [Xak, Xad, decide_eq_true (by omega), Bool.not_true, Xaw, Xai (by omega)]
 have hb : (sel ((qp.tmod 6) == 0) (some (10 : Int)) (sel ((qp.tmod 6) == 1) (some 11) (sel ((qp.tmod 6) == 2) (some 13) (sel ((qp.tmod 6) == 3) (some 14) (sel ((qp.tmod 6) == 4) (some 16) (some 18)))))) = some (Xp4 qp) := by
  unfold Xp4
  simp only [Yl5, beq_iff_eq]
  repeat' split
  all_goals rfl
 rw [hb, Xad]
 unfold Xnl at h
 cases e : it (Xig qp) 10 (Xp4 qp, 0) with
 | none => rw [e] at h; simp only at h; omega
 | some q =>
  rw [e] at h
  rw [Xhz.2 ⟨10, e⟩, Xad]
  exact ⟨q, rfl, h⟩
theorem Xtd (p : Int) (h : 0 ≤ p ∧ p ≤ 15) : ∃ k, Xkx p = some k ∧ 0 ≤ k ∧ k ≤ 2 := by
 unfold Xkx
 rw [Xak, Xad, decide_eq_true h, Bool.not_true, Xaw, Xai (by omega), Xai (by omega), Xai (by omega), Xai (by omega), Xcj, Xad]
 cases ((Xaa .i64 (p.tdiv 4)).tmod 2 == 0 && (p.tmod 4).tmod 2 == 0) with
 | true => exact ⟨0, rfl, by omega, by omega⟩
 | false =>
  rw [Xaw, Xcj, Xad]
  cases ((Xaa .i64 (p.tdiv 4)).tmod 2 == 1 && (p.tmod 4).tmod 2 == 1) with
  | true => exact ⟨1, rfl, by omega, by omega⟩
  | false => exact ⟨2, rfl, by omega, by omega⟩
theorem Xbs (k a b c : Int) : ∃ x, Xbu k a b c = some x ∧ (x = a ∨ x = b ∨ x = c) := by
 unfold Xbu
 cases (k == 0) with
 | true => exact ⟨a, rfl, Or.inl rfl⟩
 | false =>
  cases (k == 1) with
  | true => exact ⟨b, rfl, Or.inr (Or.inl rfl)⟩
  | false => exact ⟨c, rfl, Or.inr (Or.inr rfl)⟩
theorem Yr6 (qp : Int) (h0 : 0 ≤ qp ∧ qp ≤ 40) (x : Int) (hx : 0 ≤ x ∧ x ≤ 29) : ∃ o, loop (Xeb qp) (x, 0) = some o ∧ 0 ≤ o ∧ o ≤ 1856 := by
 obtain ⟨o, e, h1, h2⟩ := Xnn (f := Xeb qp) (qp / 6).toNat (fun i s => 0 ≤ s ∧ s ≤ 29 * 2 ^ i) (by
  intro i s hi ⟨g1, g2⟩
  have h6 : (2 : Int) ^ i ≤ 64 := by
   have : i ≤ 6 := by omega
   obtain rfl | rfl | rfl | rfl | rfl | rfl | rfl : i = 0 ∨ i = 1 ∨ i = 2 ∨ i = 3 ∨ i = 4 ∨ i = 5 ∨ i = 6 := by omega
   all_goals decide
  have h7 : (2 : Int) ^ (i + 1) = 2 * 2 ^ i := by rw [Int.pow_succ, Int.mul_comm]
  unfold Xeb
  simp only
  rw [Xai (by omega), Xbn (by omega), wk (e := qp / 6) (by omega) (by omega), Xaj (by omega), wk (e := 2 * s) (by omega) (by omega), wk (e := (i : Int) + 1) (by omega) (by omega)]
  exact ⟨_, rfl, by omega, by rw [h7]; omega⟩) (by intro s; unfold Xeb; simp only; rw [Xai (by omega), Xbn (by omega), wk (e := qp / 6) (by omega) (by omega), Xal (by omega)]) x ⟨hx.1, by simp; omega⟩
 have h6 : (2 : Int) ^ (qp / 6).toNat ≤ 64 := by
  generalize hi : (qp / 6).toNat = i
  obtain rfl | rfl | rfl | rfl | rfl | rfl | rfl : i = 0 ∨ i = 1 ∨ i = 2 ∨ i = 3 ∨ i = 4 ∨ i = 5 ∨ i = 6 := by omega
  all_goals decide
 exact ⟨o, e, h1, by omega⟩
theorem Ygg (qp p : Int) (h0 : 0 ≤ qp ∧ qp ≤ 40) (hp : 0 ≤ p ∧ p ≤ 15) : ∃ s, Xgx qp p = some s ∧ 0 ≤ s ∧ s ≤ 1856 := by
 unfold Xgx
 obtain ⟨k, e, k0, k1⟩ := Xtd p hp
 rw [e, Xad, Xak, Xad, decide_eq_true h0, Xax, decide_eq_false (by omega), Xad, Xaw, Xai (by omega)]
 obtain ⟨a1, e1, b1⟩ := Xbs k 10 16 13
 obtain ⟨a2, e2, b2⟩ := Xbs k 11 18 14
 obtain ⟨a3, e3, b3⟩ := Xbs k 13 20 16
 obtain ⟨a4, e4, b4⟩ := Xbs k 14 23 18
 obtain ⟨a5, e5, b5⟩ := Xbs k 16 25 20
 obtain ⟨a6, e6, b6⟩ := Xbs k 18 29 23
 rw [e1, e2, e3, e4, e5, e6]
 simp only [Xad, Yua]
 obtain ⟨o, eo, o1, o2⟩ := Yr6 qp h0 (sel (qp.tmod 6 == 0) a1 (sel (qp.tmod 6 == 1) a2 (sel (qp.tmod 6 == 2) a3 (sel (qp.tmod 6 == 3) a4 (sel (qp.tmod 6 == 4) a5 (sel (qp.tmod 6 == 5) a6 0)))))) (by
  simp only [Yl5]
  repeat' split
  all_goals omega)
 exact ⟨o, (Xeu eo).trans rfl, o1, o2⟩
theorem Yqx {a s B : Int} (ha : -B ≤ a ∧ a ≤ B) (hs : -1 ≤ s ∧ s ≤ 1) : (-B ≤ a * s ∧ a * s ≤ B) ∧ (-B ≤ s * a ∧ s * a ≤ B) := by
 obtain rfl | rfl | rfl : s = -1 ∨ s = 0 ∨ s = 1 := by omega
 all_goals omega
theorem Yjo (p : List Int) (B : Int) (hB : 0 ≤ B ∧ B ≤ 1000000000000) (hl : p.length = 64) (hb : inB B p) (i v : Nat) (hi : i < 8) (hv : v < 8) : ∃ o, Xit p i v = some o ∧ -(8 * B) ≤ o ∧ o ≤ 8 * B := by
 unfold Xit
 obtain ⟨o, e, h1, h2⟩ := Xnn (f := Xdy p i v) 8 (fun k s => -(B * k) ≤ s ∧ s ≤ B * k) (by
  intro k s hk ⟨g1, g2⟩
  obtain ⟨q, eq, q0, q1⟩ := Xtg v k hv hk
  have ha := Xq8 hb (i := 8 * i + k) (by omega)
  have hm := (Yqx ha ⟨q0, q1⟩).1
  have hk8 : B * k ≤ B * 8 := Int.mul_le_mul_of_nonneg_left (by omega) hB.1
  have hk0 : B * ((k + 1 : Nat) : Int) = B * k + B := by rw [Int.natCast_add, Int.mul_add]; simp
  unfold Xdy
  simp only
  rw [Xaj (by omega), wk (e := 8 * (i : Int)) (by omega) (by omega), wk (e := 8 * (i : Int) + (k : Int)) (by omega) (by omega), Xai (by omega), eq, Xad, show (8 * (i : Int) + (k : Int)).toNat = 8 * i + k by omega, wk (e := p.getD (8 * i + k) 0 * q) (by omega) (by omega), wk (e := s + p.getD (8 * i + k) 0 * q) (by omega) (by omega), wk (e := (k : Int) + 1) (by omega) (by omega)]
  exact ⟨_, rfl, by rw [hk0]; omega, by rw [hk0]; omega⟩) (by intro s; unfold Xdy; rw [Xal (by simp)]) 0 (by simp)
 exact ⟨o, (Xeu e).trans rfl, by omega, by omega⟩
theorem Yg0 (p : List Int) (B : Int) (hB : 0 ≤ B ∧ B ≤ 10000000000) (hl : p.length = 64) (hb : inB B p) : ∃ o, Xg5 p = some o ∧ o.length = 64 ∧ inB (64 * B) o := by
 have hm : maxLen = 9223372036854775807 := rfl
 unfold Xg5
 obtain ⟨h, eh, hh1, hh2⟩ := Xe5 (f := Xcx p) 8 (fun i s => s.length = 8 * i ∧ inB (8 * B) s) (by
  intro i s hi ⟨g1, g2⟩
  obtain ⟨t, et, t1, t2⟩ := Xe5 (f := Xcy p ((i : Int), s)) 8 (fun v s => s.length = 8 * i + v ∧ inB (8 * B) s) (by
   intro v s hv ⟨g1, g2⟩
   obtain ⟨r, er, r1, r2⟩ := Yjo p B ⟨hB.1, by omega⟩ hl hb i v hi hv
   unfold Xcy
   simp only
   rw [Xaj (by omega), er, Xad, Xai (by simp only [List.length_singleton]; omega), wk (e := (v : Int) + 1) (by omega) (by omega)]
   exact ⟨_, rfl, by simp; omega, Xx0 g2 (Yte ⟨by omega, r2⟩)⟩) (by intro s; unfold Xcy; rw [Xal (by simp)]) s ⟨by omega, g2⟩
  unfold Xcx
  simp only
  rw [Xaj (by omega), et, Xad, wk (e := (i : Int) + 1) (by omega) (by omega)]
  exact ⟨_, rfl, by omega, t2⟩) (by intro s; unfold Xcx; rw [Xal (by simp)]) [] ⟨rfl, Ypg _⟩
 rw [eh, Xad]
 obtain ⟨o, eo, o1, o2⟩ := Xe5 (f := Xce h) 8 (fun i s => s.length = 8 * i ∧ inB (64 * B) s) (by
  intro i s hi ⟨g1, g2⟩
  obtain ⟨t, et, t1, t2⟩ := Xe5 (f := Xcf h ((i : Int), s)) 8 (fun v s => s.length = 8 * i + v ∧ inB (64 * B) s) (by
   intro v r hv ⟨g1, g2⟩
   obtain ⟨a, ea, a1, a2⟩ := Xnn (f := Xcg h ((i : Int), s) ((v : Int), r)) 8 (fun k s => -(8 * B * k) ≤ s ∧ s ≤ 8 * B * k) (by
    intro k c hk ⟨g1, g2⟩
    obtain ⟨q, eq, q0, q1⟩ := Xtg i k hi hk
    have ha := Xq8 hh2 (i := 8 * k + v) (by omega)
    have hm := (Yqx ha ⟨q0, q1⟩).2
    have hk8 : 8 * B * k ≤ 8 * B * 8 := Int.mul_le_mul_of_nonneg_left (by omega) (by omega)
    have hk0 : 8 * B * ((k + 1 : Nat) : Int) = 8 * B * k + 8 * B := by rw [Int.natCast_add, Int.mul_add]; simp
    unfold Xcg
    simp only
    rw [Xaj (by omega), eq, Xad, wk (e := 8 * (k : Int)) (by omega) (by omega), wk (e := 8 * (k : Int) + (v : Int)) (by omega) (by omega), Xai (by omega), Xai (by omega), show (8 * (k : Int) + (v : Int)).toNat = 8 * k + v by omega, wk (e := q * h.getD (8 * k + v) 0) (by omega) (by omega), wk (e := c + q * h.getD (8 * k + v) 0) (by omega) (by omega), wk (e := (k : Int) + 1) (by omega) (by omega)]
    exact ⟨_, rfl, by rw [hk0]; omega, by rw [hk0]; omega⟩) (by intro s; unfold Xcg; rw [Xal (by simp)]) 0 (by simp)
   unfold Xcf
   simp only
   rw [Xaj (by omega), ea, Xad, Xai (by simp only [List.length_singleton]; omega), wk (e := (v : Int) + 1) (by omega) (by omega)]
   exact ⟨_, rfl, by simp; omega, Xx0 g2 (Yte ⟨by omega, by omega⟩)⟩) (by intro s; unfold Xcf; rw [Xal (by simp)]) s ⟨by omega, g2⟩
  unfold Xce
  simp only
  rw [Xaj (by omega), et, Xad, wk (e := (i : Int) + 1) (by omega) (by omega)]
  exact ⟨_, rfl, by omega, t2⟩) (by intro s; unfold Xce; rw [Xal (by simp)]) [] ⟨rfl, Ypg _⟩
 exact ⟨o, (Xeu eo).trans rfl, by omega, o2⟩
theorem Xj7 (a b : Int) (ha : -1000000000000 ≤ a ∧ a ≤ 1000000000000) (hb : b = 2 ∨ b = 64) : ∃ d, Xcw a b = some d ∧ b * d ≤ a ∧ a < b * d + b := by
 unfold Xcw
 have h1 : b * (a.tdiv b) + a.tmod b = a := Int.mul_tdiv_add_tmod a b
 have h2 : -b < a.tmod b ∧ a.tmod b < b := by
  have hb0 : 0 < b := by omega
  refine ⟨?_, Int.tmod_lt_of_pos a hb0⟩
  have := Int.lt_tmod_of_pos a hb0
  omega
 rw [Xai (by omega), Xai (by omega)]
 generalize a.tmod b = m at h1 h2
 generalize a.tdiv b = t at h1 h2
 have ht : -1000000000001 ≤ t ∧ t ≤ 1000000000001 := by rcases hb with rfl | rfl <;> omega
 by_cases h : m < 0
 ·
  rw [Xaj h, Xad, wk (e := t) (by omega) (by omega), wk (e := t - 1) (by omega) (by omega)]
  refine ⟨_, rfl, ?_⟩
  rcases hb with rfl | rfl <;> omega
 ·
  rw [Xal h, Xad, wk (e := t) (by omega) (by omega)]
  refine ⟨_, rfl, ?_⟩
  rcases hb with rfl | rfl <;> omega
theorem Xyh (p : List Int) (hl : p.length = 64) (hb : inB 5760000 p) : ∃ o, Xe0 p = some o ∧ o.length = 64 ∧ inB 10000000 o := by
 unfold Xe0
 obtain ⟨o, e, h1, h2⟩ := Yg0 p 5760000 (by omega) hl hb
 rw [Xi3 p 64 10000000 (by omega) (by omega) (by omega) (Yli hb (by omega)), Xad, Bool.not_true, Xaw, e, Xad]
 obtain ⟨r, er, r1, r2⟩ := Xr6 (f := Xfd) 64 (fun x => -368640000 ≤ x ∧ x ≤ 368640000) (fun x => -10000000 ≤ x ∧ x ≤ 10000000) (by
  intro i l hi hll hx
  obtain ⟨d, ed, d1, d2⟩ := Xj7 (l.getD i 0 + 32) 64 (by omega) (Or.inr rfl)
  unfold Xfd
  simp only [Int.toNat_natCast]
  rw [Xaj (by omega), Xai (by omega), Xai (by omega), wk (e := l.getD i 0 + 32) (by omega) (by omega), ed, Xad, Xai (by omega), Xai (by omega), wk (e := (i : Int) + 1) (by omega) (by omega)]
  exact ⟨d, rfl, by omega, by omega⟩) (by intro s; unfold Xfd; rw [Xal (by simp)]) o h1 (fun x hx => by have := h2 x hx; omega)
 exact ⟨r, (Xeu er).trans rfl, r1, r2⟩
theorem Xrq (p : List Int) (B : Int) (hB : 0 ≤ B) (hl : p.length = 16) (hb : inB B p) : ∃ o, Xfp p = some o ∧ o.length = 16 ∧ inB B o := by
 unfold Xfp
 rw [Xai (by omega)]
 obtain ⟨o, e, h1, h2⟩ := Xe5 (f := Xdf p) 16 (fun i s => s.length = 16 ∧ inB B s) (by
  intro i s hi ⟨g1, g2⟩
  have ha := Xq8 hb (i := i) (by omega)
  unfold Xdf
  simp only
  rw [Xaj (by omega), Xai (by omega), Xai (by omega), Xai (by omega), Xch (by omega), Xbn (by omega), wk (e := (i : Int) / 4) (by omega) (by omega), wk (e := (i : Int) % 4 * 4) (by omega) (by omega), wk (e := (i : Int) % 4 * 4 + (i : Int) / 4) (by omega) (by omega), Xai (by omega), Xai (by omega), wk (e := (i : Int) + 1) (by omega) (by omega), Int.toNat_natCast]
  exact ⟨_, rfl, by rw [List.length_set]; exact g1, Ypi g2 _ ha⟩) (by intro s; unfold Xdf; rw [Xal (by simp)]) (List.replicate (16 : Int).toNat 0) ⟨by simp, Yph _ hB⟩
 exact ⟨o, (Xeu e).trans rfl, h1, h2⟩
theorem Yvi {B a b c d : Int} (h1 : -B ≤ a ∧ a ≤ B) (h2 : -B ≤ b ∧ b ≤ B) (h3 : -B ≤ c ∧ c ≤ B) (h4 : -B ≤ d ∧ d ≤ B) : inB B [a, b, c, d] := fun x hx => by
 simp only [List.mem_cons, List.not_mem_nil, or_false] at hx
 rcases hx with rfl | rfl | rfl | rfl
 ·
  exact h1
 ·
  exact h2
 ·
  exact h3
 ·
  exact h4
theorem Xql (p : List Int) (B : Int) (hB : 0 ≤ B ∧ B ≤ 1000000000) (hl : p.length = 16) (hb : inB B p) : ∃ o, Xes p = some o ∧ o.length = 16 ∧ inB (4 * B + 2) o := by
 have hm : maxLen = 9223372036854775807 := rfl
 unfold Xes
 obtain ⟨o, e, h1, h2⟩ := Xe5 (f := Xcv p) 4 (fun i s => s.length = 4 * i ∧ inB (4 * B + 2) s) (by
  intro i s hi ⟨g1, g2⟩
  have a0 := Xq8 hb (i := 4 * i) (by omega)
  have a1 := Xq8 hb (i := 4 * i + 1) (by omega)
  have a2 := Xq8 hb (i := 4 * i + 2) (by omega)
  have a3 := Xq8 hb (i := 4 * i + 3) (by omega)
  obtain ⟨f, ef, f1, f2⟩ := Xj7 (p.getD (4 * i + 1) 0) 2 (by omega) (Or.inl rfl)
  obtain ⟨g, eg, g1', g2'⟩ := Xj7 (p.getD (4 * i + 3) 0) 2 (by omega) (Or.inl rfl)
  unfold Xcv
  simp only
  rw [Xaj (by omega), wk (e := 4 * (i : Int)) (by omega) (by omega), wk (e := 4 * (i : Int) + 1) (by omega) (by omega), wk (e := 4 * (i : Int) + 2) (by omega) (by omega), wk (e := 4 * (i : Int) + 3) (by omega) (by omega), Xai (by omega), Xai (by omega), Xai (by omega), Xai (by omega), show (4 * (i : Int)).toNat = 4 * i by omega, show (4 * (i : Int) + 1).toNat = 4 * i + 1 by omega, show (4 * (i : Int) + 2).toNat = 4 * i + 2 by omega, show (4 * (i : Int) + 3).toNat = 4 * i + 3 by omega, ef, Xad, eg, Xad]
  generalize p.getD (4 * i) 0 = a at *
  generalize p.getD (4 * i + 1) 0 = b at *
  generalize p.getD (4 * i + 2) 0 = c at *
  generalize p.getD (4 * i + 3) 0 = d at *
  rw [wk (e := (i : Int) + 1) (by omega) (by omega), wk (e := a + c) (by omega) (by omega), wk (e := a - c) (by omega) (by omega), wk (e := b + g) (by omega) (by omega), wk (e := f - d) (by omega) (by omega), wk (e := a + c + (b + g)) (by omega) (by omega), wk (e := a - c + (f - d)) (by omega) (by omega), wk (e := a - c - (f - d)) (by omega) (by omega), wk (e := a + c - (b + g)) (by omega) (by omega), Xai (by simp only [List.length_cons, List.length_nil]; omega)]
  exact ⟨_, rfl, by simp; omega, Xx0 g2 (Yvi (by omega) (by omega) (by omega) (by omega))⟩) (by intro s; unfold Xcv; rw [Xal (by simp)]) [] ⟨rfl, Ypg _⟩
 exact ⟨o, (Xeu e).trans rfl, h1, h2⟩
theorem Xqh (p : List Int) (hl : p.length = 16) (hb : inB 10000000 p) : ∃ o, Xfu p = some o ∧ o.length = 16 ∧ inB 10000000 o := by
 unfold Xfu
 obtain ⟨a, ea, a1, a2⟩ := Xql p 10000000 (by omega) hl hb
 obtain ⟨b, eb, b1, b2⟩ := Xrq a _ (by omega) a1 a2
 obtain ⟨c, ec, c1, c2⟩ := Xql b _ (by omega) b1 b2
 obtain ⟨d, ed, d1, d2⟩ := Xrq c _ (by omega) c1 c2
 rw [Xi3 p 16 10000000 (by omega) (by omega) (by omega) hb, Xad, Bool.not_true, Xaw, ea, Xad, eb, Xad, ec, Xad, ed, Xad]
 obtain ⟨r, er, r1, r2⟩ := Xr6 (f := Xf5) 16 (fun x => -160000010 ≤ x ∧ x ≤ 160000010) (fun x => -10000000 ≤ x ∧ x ≤ 10000000) (by
  intro i l hi hll hx
  obtain ⟨d, ed, d1, d2⟩ := Xj7 (l.getD i 0 + 32) 64 (by omega) (Or.inr rfl)
  unfold Xf5
  simp only [Int.toNat_natCast]
  rw [Xaj (by omega), Xai (by omega), Xai (by omega), wk (e := l.getD i 0 + 32) (by omega) (by omega), ed, Xad, Xai (by omega), Xai (by omega), wk (e := (i : Int) + 1) (by omega) (by omega)]
  exact ⟨d, rfl, by omega, by omega⟩) (by intro s; unfold Xf5; rw [Xal (by simp)]) d d1 (fun x hx => by have := d2 x hx; omega)
 exact ⟨r, (Xeu er).trans rfl, r1, r2⟩
theorem Xpa (l qp p : Int) (hl : -5000 ≤ l ∧ l ≤ 5000) (h0 : 0 ≤ qp ∧ qp ≤ 40) (hp : 0 ≤ p ∧ p ≤ 15) : ∃ o, Xe3 l qp p = some o ∧ -10000000 ≤ o ∧ o ≤ 10000000 := by
 unfold Xe3
 obtain ⟨s, es, q0, q1⟩ := Ygg qp p h0 hp
 rw [Xak, Xad, decide_eq_true hl, Bool.not_true, Xaw, es, Xad]
 have m1 : l * s ≤ 5000 * s := Int.mul_le_mul_of_nonneg_right hl.2 q0
 have m2 : -5000 * s ≤ l * s := Int.mul_le_mul_of_nonneg_right hl.1 q0
 rw [wk (by omega) (by omega)]
 exact ⟨_, rfl, by omega, by omega⟩
theorem Xo7 (l qp : Int) (hl : -5000 ≤ l ∧ l ≤ 5000) (h0 : 0 ≤ qp ∧ qp ≤ 40) : ∃ o, Xe2 l qp = some o ∧ -5760000 ≤ o ∧ o ≤ 5760000 := by
 unfold Xe2
 obtain ⟨s, es, q0, q1⟩ := Yjd qp h0
 rw [Xak, Xad, decide_eq_true hl, Bool.not_true, Xaw, es, Xad]
 have m1 : l * s ≤ 5000 * s := Int.mul_le_mul_of_nonneg_right hl.2 (by omega)
 have m2 : -5000 * s ≤ l * s := Int.mul_le_mul_of_nonneg_right hl.1 (by omega)
 rw [wk (by omega) (by omega)]
 exact ⟨_, rfl, by omega, by omega⟩
theorem Yto {l : List Int} (h : Yry l = true) : l.length = 64 ∧ inB 5000 l := by
 obtain ⟨h1, h2⟩ := Yrz h
 refine ⟨h1, fun x hx => ?_⟩
 have := List.all_eq_true.1 h2 x hx
 unfold Yyc at this
 rwa [decide_eq_true_eq] at this
theorem Ym7 {c : Xj9} (h : Xjb c = true) : 0 ≤ c.Qp ∧ c.Qp ≤ 40 := by
 unfold Xjb at h
 rw [Bool.and_eq_true, decide_eq_true_eq] at h
 exact h.1
theorem Xnw (p : List Int) (c : Xj9) (hc : Xjb c = true) (hp : Yry p = true) : ∃ o, Xdd p c = some (o, true) ∧ o.length = 64 ∧ inB 10000000 o := by
 have hm : maxLen = 9223372036854775807 := rfl
 have hq := Ym7 hc
 obtain ⟨hl, hb⟩ := Yto hp
 unfold Xdd
 rw [Xez, Xad, hc, Xax, Xi3 p 64 5000 (by omega) (by omega) (by omega) hb, Xad, Bool.not_true, Xad, Xaw]
 cases hE : c.Exact with
 | true =>
  obtain ⟨o, e, h1, h2⟩ := Xff 8 (Or.inr rfl) p 5000 (by omega) (by omega) hb
  rw [Xax, e, Xad]
  exact ⟨o, rfl, by omega, Yli h2 (by omega)⟩
 | false =>
  rw [Xaw]
  cases hL : c.Large with
  | true =>
   obtain ⟨w, ew, w1, w2⟩ := Xff 8 (Or.inr rfl) p 5000 (by omega) (by omega) hb
   obtain ⟨l, el, l1, l2⟩ := Xr6 (f := Xbi c) 64 (fun x => -5000 ≤ x ∧ x ≤ 5000) (fun x => -5760000 ≤ x ∧ x ≤ 5760000) (by
    intro i l hi hll hx
    obtain ⟨d, ed, d1, d2⟩ := Xo7 (l.getD i 0) c.Qp hx hq
    unfold Xbi
    simp only [Int.toNat_natCast]
    rw [Xaj (by omega), Xai (by omega), Xai (by omega), ed, Xad, Xai (by omega), Xai (by omega), wk (e := (i : Int) + 1) (by omega) (by omega)]
    exact ⟨d, rfl, d1, d2⟩) (by intro s; unfold Xbi; rw [Xal (by simp)]) w (by omega) w2
   obtain ⟨o, e, h1, h2⟩ := Xyh l l1 l2
   rw [Xax, ew, Xad, el, Xad, e, Xad]
   exact ⟨o, rfl, h1, h2⟩
  | false =>
   obtain ⟨o, eo, o1, o2⟩ := Xe5 (f := Xca p c) 4 (fun k s => s.length = 64 ∧ inB 10000000 s) (by
    intro k s hk ⟨g1, g2⟩
    have hcut : ((p.drop (16 * k)).take 16).length = 16 := by rw [List.length_take, List.length_drop]; omega
    obtain ⟨a, ea, a1, a2⟩ := Xff 4 (Or.inl rfl) ((p.drop (16 * k)).take 16) 5000 (by omega) (by omega) (Yqi (Yqh hb _) _)
    obtain ⟨l, el, l1, l2⟩ := Xr6 (f := Xbf c) 16 (fun x => -5000 ≤ x ∧ x ≤ 5000) (fun x => -10000000 ≤ x ∧ x ≤ 10000000) (by
     intro i l hi hll hx
     obtain ⟨d, ed, d1, d2⟩ := Xpa (l.getD i 0) c.Qp i hx hq (by omega)
     unfold Xbf
     simp only [Int.toNat_natCast]
     rw [Xaj (by omega), Xai (by omega), Xai (by omega), ed, Xad, Xai (by omega), Xai (by omega), wk (e := (i : Int) + 1) (by omega) (by omega)]
     exact ⟨d, rfl, d1, d2⟩) (by intro s; unfold Xbf; rw [Xal (by simp)]) a (by omega) a2
    obtain ⟨b, eb, b1, b2⟩ := Xqh l l1 l2
    obtain ⟨r, er, r1, r2⟩ := Xe5 (f := Xbj ((k : Int), s) b) 16 (fun i s => s.length = 64 ∧ inB 10000000 s) (by
     intro i s hi ⟨g1, g2⟩
     have ha := Xq8 b2 (i := i) (by omega)
     unfold Xbj
     simp only
     rw [Xaj (by omega), Xai (by omega), Xai (by omega), Xai (by omega), Xai (by omega), Xai (by omega), Xai (by omega), Xbn (a := (k : Int)) (by omega), Xbn (a := (i : Int)) (by omega), Xch (a := (k : Int)) (by omega), Xch (a := (i : Int)) (by omega), wk (e := (k : Int) / 2) (by omega) (by omega), wk (e := (k : Int) / 2 * 4) (by omega) (by omega), wk (e := (i : Int) / 4) (by omega) (by omega), wk (e := (k : Int) / 2 * 4 + (i : Int) / 4) (by omega) (by omega), wk (e := 8 * ((k : Int) / 2 * 4 + (i : Int) / 4)) (by omega) (by omega), wk (e := (k : Int) % 2 * 4) (by omega) (by omega), wk (e := 8 * ((k : Int) / 2 * 4 + (i : Int) / 4) + (k : Int) % 2 * 4) (by omega) (by omega), wk (e := 8 * ((k : Int) / 2 * 4 + (i : Int) / 4) + (k : Int) % 2 * 4 + (i : Int) % 4) (by omega) (by omega), Xai (by omega), Xai (by omega), wk (e := (i : Int) + 1) (by omega) (by omega), Int.toNat_natCast]
     exact ⟨_, rfl, by rw [List.length_set]; exact g1, Ypi g2 _ ha⟩) (by intro s; unfold Xbj; rw [Xal (by simp)]) s ⟨g1, g2⟩
    unfold Xca
    simp only
    rw [Xaj (by omega), wk (e := 16 * (k : Int)) (by omega) (by omega), wk (e := 16 * (k : Int) + 16) (by omega) (by omega), Xai (by omega), show (16 * (k : Int)).toNat = 16 * k by omega, show (16 * (k : Int) + 16).toNat - 16 * k = 16 by omega, ea, Xad, el, Xad, eb, Xad, er, Xad, wk (e := (k : Int) + 1) (by omega) (by omega)]
    exact ⟨_, rfl, r1, r2⟩) (by intro s; unfold Xca; rw [Xal (by simp)]) (List.replicate (64 : Int).toNat 0) ⟨by simp, Yph _ (by omega)⟩
   rw [Xaw, Xai (by omega), eo, Xad]
   exact ⟨o, rfl, o1, o2⟩
theorem Xqq (l : List Int) (h : Xmw l = true) : Xly l = some true := by
 obtain ⟨h1, h2⟩ := Xq0 h
 unfold Xly
 rw [Xa9 (by simp only [bne_eq_false_iff_eq]; omega), Xo5 l.length (f := Xg7 l) (by
  intro i hi
  have := h2 i (by omega)
  unfold Xg7
  rw [Xaj (by omega), Xai (by omega), Xak, Xad, Int.toNat_natCast, decide_eq_true this, Bool.not_true, Xaw, wk (by omega) (by omega)]
  rfl) (by unfold Xg7; rw [Xal (by omega)]), Xad]
theorem Ynb {l : List Int} (h1 : l.length = 64) (h2 : ∀ x ∈ l, 0 ≤ x ∧ x ≤ 255) : Xmw l = true := by
 unfold Xmw
 rw [Bool.and_eq_true, decide_eq_true_eq, List.all_eq_true]
 exact ⟨h1, fun x hx => by unfold Yu8; rw [decide_eq_true_eq]; exact h2 x hx⟩
theorem Xtc (g b : List Int) (hg : Xmw g = true) (hl : b.length = 64) (hb : inB 10000000 b) : ∃ o, Xgw g b = some o ∧ Xmw o = true := by
 have hm : maxLen = 9223372036854775807 := rfl
 obtain ⟨g1, g2⟩ := Xq0 hg
 unfold Xgw
 rw [Xqq g hg, Xad, Xax, Xi3 b 64 10000000 (by omega) (by omega) (by omega) hb, Xad, Bool.not_true, Xad, Xaw]
 obtain ⟨o, e, h1, h2⟩ := Xe5 (f := Xe1 g b) 64 (fun i s => s.length = i ∧ ∀ x ∈ s, 0 ≤ x ∧ x ≤ 255) (by
  intro i s hi ⟨k1, k2⟩
  have ha := Xq8 hb (i := i) (by omega)
  have hd := g2 i hi
  have br := Xmr (n := g.getD i 0 + b.getD i 0) (a := 0) (b := 255) (by omega)
  unfold Xe1
  simp only [Int.toNat_natCast]
  rw [Xaj (by omega), Xai (by omega), Xai (by omega), wk (e := g.getD i 0 + b.getD i 0) (by omega) (by omega), Xfb, Xad, Xai (by simp only [List.length_singleton]; omega), wk (e := (i : Int) + 1) (by omega) (by omega)]
  refine ⟨_, rfl, by simp; omega, fun x hx => ?_⟩
  rcases List.mem_append.1 hx with hx | hx
  ·
   exact k2 x hx
  ·
   rw [List.mem_singleton.1 hx]; exact br) (by intro s; unfold Xe1; rw [Xal (by simp)]) [] ⟨rfl, fun x hx => by simp at hx⟩
 exact ⟨o, (Xeu e).trans rfl, Ynb h1 h2⟩
def Xzc (e : Xkb) : Prop := (e.Above.length = 0 ∨ e.Above.length = 8) ∧ (e.Left.length = 0 ∨ e.Left.length = 8) ∧ (∀ x ∈ e.Above, 0 ≤ x ∧ x ≤ 255) ∧ (∀ x ∈ e.Left, 0 ≤ x ∧ x ≤ 255) ∧ -1 ≤ e.Corner ∧ e.Corner ≤ 255
theorem Ycf {p : Pic} (ok : Xcc p = true) (x y : Int) : Xb6 p x y 8 8 = some (Xle p x y) := by
 obtain ⟨k1, k2, k3⟩ := Xbo ok
 unfold Xb6 Xle
 rw [Xfv, Xad, ok, Xax, Xak, Xad, Xak, Xad, wk (e := p.Wide - 8) (by omega) (by omega), wk (e := p.High - 8) (by omega) (by omega), Xak, Xad, Xak, Xad]
 simp only [Xcj, Xad]
 congr 1
 rw [Bool.eq_iff_iff]
 simp only [Bool.and_eq_true, decide_eq_true_eq]
 omega
theorem Xl9 {p : Pic} (ok : Xcc p = true) {x y : Int} (hx : x.tmod 8 = 0) (hy : y.tmod 8 = 0) (h : Xle p x y = true) : Xi7 p x y = some true := by
 unfold Xi7
 rw [Xai (by omega), hx, Xai (by omega), hy, Ycf ok, Xad, h]
 rfl
theorem Yfz {p : Pic} (ok : Xcc p = true) {x y : Int} (hx : x.tmod 8 = 0) (hy : y.tmod 8 = 0) (h : Xle p x y = true) : ∃ e, Xgv p x y = some (e, true) ∧ Xzc e := by
 have hm : maxLen = 9223372036854775807 := rfl
 obtain ⟨k1, k2, k3⟩ := Xbo ok
 have h' := h
 unfold Xle at h'
 rw [decide_eq_true_eq] at h'
 unfold Xgv
 rw [Xl9 ok hx hy h, Xad, Bool.not_true, Xaw]
 obtain ⟨o, e, o1, o2, o3, o4, o5, o6⟩ := Xe5 (f := Xea p x y) 8 (fun i s => (y > 0 → s.1.length = i) ∧ (¬ y > 0 → s.1.length = 0) ∧ (x > 0 → s.2.length = i) ∧ (¬ x > 0 → s.2.length = 0) ∧ (∀ z ∈ s.1, 0 ≤ z ∧ z ≤ 255) ∧ (∀ z ∈ s.2, 0 ≤ z ∧ z ≤ 255)) (by
  intro i s hi ⟨g1, g2, g3, g4, g5, g6⟩
  obtain ⟨a, b⟩ := s
  simp only at g1 g2 g3 g4 g5 g6
  have d1 := Xpj p (x + i) (y - 1)
  have d2 := Xpj p (x - 1) (y + i)
  have st1 : ∃ a', (sel (decide (y > 0)) (bnd (Xfc p (Xaa .i64 (x + (i : Int))) (Xaa .i64 (y - 1))) fun q16 => req ((a.length + ([q16]).length) * 8 ≤ 140737488355328 ∧ a.length + ([q16]).length ≤ maxLen) <| some (a ++ ([q16]))) (some a)) = some a' ∧ (y > 0 → a'.length = i + 1) ∧ (¬ y > 0 → a'.length = 0) ∧ (∀ z ∈ a', 0 ≤ z ∧ z ≤ 255) := by
   by_cases c : y > 0
   ·
    rw [Xaj c, wk (e := x + (i : Int)) (by omega) (by omega), wk (e := y - 1) (by omega) (by omega), Xjx ok, Xad, Xai (by simp only [List.length_singleton]; have := g1 c; omega)]
    refine ⟨_, rfl, fun _ => by simp; exact g1 c, fun hn => absurd c hn, fun z hz => ?_⟩
    rcases List.mem_append.1 hz with hz | hz
    ·
     exact g5 z hz
    ·
     rw [List.mem_singleton.1 hz]; exact d1
   ·
    rw [Xal c]
    exact ⟨_, rfl, fun hn => absurd hn c, fun _ => g2 c, g5⟩
  obtain ⟨a', ea, a1, a2, a3⟩ := st1
  have st2 : ∃ b', (sel (decide (x > 0)) (bnd (Xfc p (Xaa .i64 (x - 1)) (Xaa .i64 (y + (i : Int)))) fun q17 => req ((b.length + ([q17]).length) * 8 ≤ 140737488355328 ∧ b.length + ([q17]).length ≤ maxLen) <| some (a', (b ++ ([q17])))) (some (a', b))) = some (a', b') ∧ (x > 0 → b'.length = i + 1) ∧ (¬ x > 0 → b'.length = 0) ∧ (∀ z ∈ b', 0 ≤ z ∧ z ≤ 255) := by
   by_cases c : x > 0
   ·
    rw [Xaj c, wk (e := y + (i : Int)) (by omega) (by omega), wk (e := x - 1) (by omega) (by omega), Xjx ok, Xad, Xai (by simp only [List.length_singleton]; have := g3 c; omega)]
    refine ⟨_, rfl, fun _ => by simp; exact g3 c, fun hn => absurd c hn, fun z hz => ?_⟩
    rcases List.mem_append.1 hz with hz | hz
    ·
     exact g6 z hz
    ·
     rw [List.mem_singleton.1 hz]; exact d2
   ·
    rw [Xal c]
    exact ⟨_, rfl, fun hn => absurd hn c, fun _ => g4 c, g6⟩
  obtain ⟨b', eb, b1, b2, b3⟩ := st2
  unfold Xea
  simp only
  rw [Xaj (by omega), ea, Xad, eb, Xad, wk (e := (i : Int) + 1) (by omega) (by omega)]
  exact ⟨(a', b'), rfl, a1, a2, b1, b2, a3, b3⟩) (by intro s; unfold Xea; rw [Xal (by simp)]) ([], []) ⟨fun _ => rfl, fun _ => rfl, fun _ => rfl, fun _ => rfl, fun z hz => by simp at hz, fun z hz => by simp at hz⟩
 rw [e, Xad, Xcj, Xad]
 have d3 := Xpj p (x - 1) (y - 1)
 have ha : o.1.length = 0 ∨ o.1.length = 8 := by
  by_cases c : y > 0
  ·
   exact Or.inr (o1 c)
  ·
   exact Or.inl (o2 c)
 have hb : o.2.length = 0 ∨ o.2.length = 8 := by
  by_cases c : x > 0
  ·
   exact Or.inr (o3 c)
  ·
   exact Or.inl (o4 c)
 cases hc : (decide (x > 0) && decide (y > 0)) with
 | true =>
  rw [Xax, wk (e := x - 1) (by omega) (by omega), wk (e := y - 1) (by omega) (by omega), Xjx ok, Xad, Xad]
  exact ⟨_, rfl, ha, hb, o5, o6, by simp only; omega, by simp only; omega⟩
 | false =>
  rw [Xaw, Xad]
  exact ⟨_, rfl, ha, hb, o5, o6, by simp only; omega, by simp only; omega⟩
theorem Xqt (l : List Int) (hl : l.length = 0 ∨ l.length = 8) (h : ∀ x ∈ l, 0 ≤ x ∧ x ≤ 255) : Xi8 l = some true := by
 unfold Xi8
 have hc : (sel ((l.length : Int) != 0) (some ((l.length : Int) != 8)) (some false)) = some false := by
  rcases hl with e | e
  ·
   rw [e]; rfl
  ·
   rw [e]; rfl
 rw [hc, Xad, Xaw, Xo5 l.length (f := Xg8 l) (by
  intro i hi
  have := h (l.getD i 0) (by rw [Xci l i hi]; exact List.getElem_mem _)
  unfold Xg8
  rw [Xaj (by omega), Xai (by omega), Xak, Xad, Int.toNat_natCast, decide_eq_true this, Bool.not_true, Xaw, wk (by omega) (by omega)]
  rfl) (by unfold Xg8; rw [Xal (by omega)]), Xad]
theorem Xqg {e : Xkb} (h : Xzc e) : Xlt e = some true := by
 obtain ⟨h1, h2, h3, h4, h5, h6⟩ := h
 unfold Xlt
 rw [Xqt _ h1 h3, Xad, Xax, Xqt _ h2 h4, Xad, Xax, Xak, Xad, decide_eq_true ⟨h5, h6⟩, Xad]
theorem Xpd (l : List Int) (k : Nat) (hk : k < 8) (hl : l.length = 0 ∨ l.length = 8) (h : ∀ x ∈ l, 0 ≤ x ∧ x ≤ 255) : ∃ x, Xc7 l k = some x ∧ 0 ≤ x ∧ x ≤ 255 := by
 unfold Xc7
 rcases hl with e | e
 ·
  rw [Xbh (by rw [e]; rfl)]; exact ⟨_, rfl, by omega, by omega⟩
 ·
  rw [Xa9 (by rw [e]; rfl), Xai (by omega), Int.toNat_natCast]
  exact ⟨_, rfl, h _ (by rw [Xci l k (by omega)]; exact List.getElem_mem _)⟩
theorem Xtj {e : Xkb} (h : Xzc e) : ∃ x, Xiu e = some x ∧ 0 ≤ x ∧ x ≤ 255 := by
 obtain ⟨h1, h2, h3, h4, _, _⟩ := h
 unfold Xiu
 rw [wk (e := (e.Above.length : Int) + (e.Left.length : Int)) (by omega) (by omega)]
 by_cases hz : (e.Above.length : Int) + (e.Left.length : Int) = 0
 ·
  rw [Xbh (by simpa using hz)]; exact ⟨_, rfl, by omega, by omega⟩
 ·
  rw [Xa9 (by simpa using hz), Xai (by omega), Xbn (by omega), wk (e := ((e.Above.length : Int) + (e.Left.length : Int)) / 2) (by omega) (by omega)]
  obtain ⟨a, ea, a1, a2⟩ := Xnn (f := Xgh e) e.Above.length (fun i s => 0 ≤ s ∧ s ≤ ((e.Above.length : Int) + (e.Left.length : Int)) / 2 + 255 * i) (by
   intro i s hi ⟨g1, g2⟩
   have := h3 (e.Above.getD i 0) (by rw [Xci _ i hi]; exact List.getElem_mem _)
   unfold Xgh
   simp only [Int.toNat_natCast]
   rw [Xaj (by omega), Xai (by omega), wk (e := s + e.Above.getD i 0) (by omega) (by omega), wk (e := (i : Int) + 1) (by omega) (by omega)]
   exact ⟨_, rfl, by omega, by omega⟩) (by intro s; unfold Xgh; rw [Xal (by simp)]) (((e.Above.length : Int) + (e.Left.length : Int)) / 2) ⟨by omega, by omega⟩
  obtain ⟨b, eb, b1, b2⟩ := Xnn (f := Xgi e) e.Left.length (fun i s => 0 ≤ s ∧ s ≤ ((e.Above.length : Int) + (e.Left.length : Int)) / 2 + 255 * e.Above.length + 255 * i) (by
   intro i s hi ⟨g1, g2⟩
   have := h4 (e.Left.getD i 0) (by rw [Xci _ i hi]; exact List.getElem_mem _)
   unfold Xgi
   simp only [Int.toNat_natCast]
   rw [Xaj (by omega), Xai (by omega), wk (e := s + e.Left.getD i 0) (by omega) (by omega), wk (e := (i : Int) + 1) (by omega) (by omega)]
   exact ⟨_, rfl, by omega, by omega⟩) (by intro s; unfold Xgi; rw [Xal (by simp)]) a ⟨by omega, by omega⟩
  rw [ea, Xad, eb, Xad, Xai hz, Xbn b1]
  have hn : (e.Above.length : Int) + (e.Left.length : Int) = 8 ∨ (e.Above.length : Int) + (e.Left.length : Int) = 16 := by omega
  have hr : 0 ≤ b / ((e.Above.length : Int) + (e.Left.length : Int)) ∧ b / ((e.Above.length : Int) + (e.Left.length : Int)) ≤ 255 := by
   rcases hn with hn | hn <;> rw [hn] <;> omega
  rw [wk (by omega) (by omega)]
  exact ⟨_, rfl, hr⟩
theorem Yf4 (m : Int) (hm0 : 0 ≤ m ∧ m ≤ 3) {e : Xkb} (h : Xzc e) : ∃ g, Xfn m e = some g ∧ Xmw g = true := by
 have hm : maxLen = 9223372036854775807 := rfl
 have h' := h
 obtain ⟨h1, h2, h3, h4, h5, h6⟩ := h'
 obtain ⟨mid, em, m1, m2⟩ := Xtj h
 unfold Xfn
 rw [Xqg h, Xad, Xax, Xak, Xad, decide_eq_true hm0, Bool.not_true, Xad, Xaw]
 have hc : ∃ v, sel (decide (e.Corner < 0)) (some (128 : Int)) (some e.Corner) = some v ∧ 0 ≤ v ∧ v ≤ 255 := by
  by_cases c : e.Corner < 0
  ·
   rw [Xaj c]; exact ⟨_, rfl, by omega, by omega⟩
  ·
   rw [Xal c]; exact ⟨_, rfl, by omega, by omega⟩
 obtain ⟨v, ev, v1, v2⟩ := hc
 rw [ev, Xad]
 obtain ⟨o, eo, o1, o2⟩ := Xe5 (f := Xdc m e v) 64 (fun i s => s.length = i ∧ ∀ x ∈ s, 0 ≤ x ∧ x ≤ 255) (by
  intro i s hi ⟨g1, g2⟩
  obtain ⟨a, ea, a1, a2⟩ := Xpd e.Above (i % 8) (by omega) h1 h3
  obtain ⟨b, eb, b1, b2⟩ := Xpd e.Left (i / 8) (by omega) h2 h4
  have br := Xmr (n := b + a - v) (a := 0) (b := 255) (by omega)
  have put : ∀ z : Int, 0 ≤ z ∧ z ≤ 255 → (s ++ [z]).length = i + 1 ∧ ∀ x ∈ s ++ [z], 0 ≤ x ∧ x ≤ 255 := by
   intro z hz
   refine ⟨by simp; omega, fun x hx => ?_⟩
   rcases List.mem_append.1 hx with hx | hx
   ·
    exact g2 x hx
   ·
    rw [List.mem_singleton.1 hx]; exact hz
  unfold Xdc
  simp only
  rw [Xaj (by omega), Xai (by omega), Xch (by omega), show (i : Int) % 8 = ((i % 8 : Nat) : Int) by omega, ea, Xad, Xai (by omega), Xbn (by omega), wk (e := (i : Int) / 8) (by omega) (by omega), show (i : Int) / 8 = ((i / 8 : Nat) : Int) by omega, eb, Xad, wk (e := (i : Int) + 1) (by omega) (by omega), em]
  cases (m == 0) with
  | true =>
   rw [Xax, Xad, Xai (by simp only [List.length_singleton]; omega), Xad]
   exact ⟨_, rfl, put _ ⟨m1, m2⟩⟩
  | false =>
   rw [Xaw]
   cases (m == 1) with
   | true =>
    rw [Xax, Xai (by simp only [List.length_singleton]; omega), Xad]
    exact ⟨_, rfl, put _ ⟨a1, a2⟩⟩
   | false =>
    rw [Xaw]
    cases (m == 2) with
    | true =>
     rw [Xax, Xai (by simp only [List.length_singleton]; omega), Xad]
     exact ⟨_, rfl, put _ ⟨b1, b2⟩⟩
    | false =>
     rw [Xaw, wk (e := b + a) (by omega) (by omega), wk (e := b + a - v) (by omega) (by omega), Xfb, Xad, Xai (by simp only [List.length_singleton]; omega), Xad]
     exact ⟨_, rfl, put _ br⟩) (by intro s; unfold Xdc; rw [Xal (by simp)]) [] ⟨rfl, fun x hx => by simp at hx⟩
 exact ⟨o, (Xeu eo).trans rfl, Ynb o1 o2⟩
theorem Yjr {p : Pic} {x y : Int} {d : List Int} (ok : Xcc p = true) (h0 : Xle p x y = true) (hd : Xmw d = true) : ∃ p', Xg9 p x y d = some p' ∧ Xcc p' = true ∧ p'.Wide = p.Wide ∧ p'.High = p.High := by
 have hm : maxLen = 9223372036854775807 := rfl
 obtain ⟨k1, k2, k3⟩ := Xbo ok
 have ar := Xdz k1 k2
 unfold Xle at h0
 rw [decide_eq_true_eq] at h0
 have hdl := (Xq0 hd).1
 have hn := Xa2 p.Dots
 unfold Xg9
 rw [Xai (by omega)]
 obtain ⟨o, e, o1⟩ := Xe5 (f := Xe4 p x y d) 64 (fun _ s => s.length = p.Dots.size) (by
  intro i s hi g1
  have b1 : 0 ≤ (y + (i : Int) / 8) * p.Wide := Int.mul_nonneg (by omega) (by omega)
  have b2 : (y + (i : Int) / 8) * p.Wide ≤ (p.High - 1) * p.Wide := Int.mul_le_mul_of_nonneg_right (by omega) (by omega)
  have b3 : (p.High - 1) * p.Wide = p.Wide * p.High - p.Wide := by rw [Int.sub_mul, Int.one_mul, Int.mul_comm]
  unfold Xe4
  simp only
  rw [Xaj (by omega), Xai (by omega), Xai (by omega), Xai (by omega), Xbn (by omega), Xch (by omega), wk (e := (i : Int) / 8) (by omega) (by omega), wk (e := y + (i : Int) / 8) (by omega) (by omega), wk (e := (y + (i : Int) / 8) * p.Wide) (by omega) (by omega), wk (e := (y + (i : Int) / 8) * p.Wide + x) (by omega) (by omega), wk (e := (y + (i : Int) / 8) * p.Wide + x + (i : Int) % 8) (by omega) (by omega), Xai (by omega), Xai (by omega), wk (e := (i : Int) + 1) (by omega) (by omega)]
  exact ⟨_, rfl, by rw [List.length_set]; exact g1⟩) (by intro s; unfold Xe4; rw [Xal (by simp)]) (Xav p.Dots) hn
 refine ⟨_, (Xeu e).trans rfl, Xv0 k1 k2 ?_, rfl, rfl⟩
 simp only
 rw [strOfNums_size]; omega
def Xp1 (n : Int) : Bool := decide (n.tmod 8 = 0) && decide (8 ≤ n ∧ n ≤ 64)
theorem Xrv (n : Int) : Xja n = some (Xp1 n) := by
 unfold Xja Xp1
 rw [Xai (by omega), Xak, Xad, Xcj, Xad, Yc8]
theorem Ylj {V O : Type} {f g : V → Option (Lp V O)} (I : V → Prop) (h : ∀ v, I v → f v = g v) (hI : ∀ v v', I v → g v = some (.go v') → I v') : ∀ (k : Nat) (v : V), I v → it f k v = it g k v
 | 0, _, _ => rfl
 | k + 1, v, hv => by
  rw [it, it, h v hv]
  cases e : g v with
  | none => rfl
  | some s =>
   cases s with
   | go y => exact Ylj I h hI k y (hI v y hv e)
   | done o => rfl
theorem Xx9 {V O : Type} {f g : V → Option (Lp V O)} (I : V → Prop) (h : ∀ v, I v → f v = g v) (hI : ∀ v v', I v → g v = some (.go v') → I v') {v : V} (hv : I v) : loop f v = loop g v := by
 apply Option.ext
 intro o
 rw [Xhz, Xhz]
 exact ⟨fun ⟨k, hk⟩ => ⟨k, by rw [← Ylj I h hI k v hv]; exact hk⟩, fun ⟨k, hk⟩ => ⟨k, by rw [Ylj I h hI k v hv]; exact hk⟩⟩
theorem Ypn {V O : Type} {f : V → Option (Lp V O)} {v : V} {o : O} (k : Nat) (h : it f k v = some o) : loop f v = some o := Xhz.2 ⟨k, h⟩
theorem Ye7 {a b : List Int} {n : Nat} (ha : a.length = n) (hb : b.length = n) (h : ∀ i : Nat, i < n → a.getD i 0 = b.getD i 0) : a = b := by
 apply List.ext_getElem (by omega)
 intro i h1 h2
 have := h i (by omega)
 rwa [Xci a i h1, Xci b i h2] at this
theorem Xjc {n : Nat} (g : Nat → Int) {i : Nat} (h : i < n) : ((List.range n).map g).getD i 0 = g i := by
 rw [Xci _ i (by simpa using h)]; simp
theorem Yu2 {α : Type} {f : Int × List α → Option (Lp (Int × List α) (List α))} (n : Nat) (g : Nat → α) (a : List α) (hs : ∀ i : Nat, i < n → f ((i : Int), a ++ (List.range i).map g) = some (.go (((i + 1 : Nat) : Int), a ++ (List.range i).map g ++ [g i]))) (he : f ((n : Int), a ++ (List.range n).map g) = some (.done (a ++ (List.range n).map g))) : loop f (0, a) = some (a ++ (List.range n).map g) := by
 have key : ∀ i : Nat, i ≤ n → loop f ((i : Int), a ++ (List.range i).map g) = some (a ++ (List.range n).map g) := by
  refine Xdk _ (Xb1 he) ?_
  intro i hi ih
  refine lgo (hs i hi) ?_
  rw [List.append_assoc, show (List.range i).map g ++ [g i] = (List.range (i + 1)).map g by simp [List.range_succ]]
  exact ih
 have := key 0 (by omega)
 simpa using this
theorem Xhy {S : Type} {f : Int × S → Option (Lp (Int × S) S)} (n : Nat) (I : Nat → S → Prop) (hs : ∀ (i : Nat) (l : S), i < n → I i l → ∃ l', f ((i : Int), l) = some (.go (((i + 1 : Nat) : Int), l')) ∧ I (i + 1) l') (he : ∀ l, I n l → f ((n : Int), l) = some (.done l)) (l0 : S) (h0 : I 0 l0) : ∃ o, loop f (0, l0) = some o ∧ I n o := by
 have key : ∀ i : Nat, i ≤ n → ∀ l, I i l → ∃ o, loop f ((i : Int), l) = some o ∧ I n o := by
  refine Xdk _ ?_ ?_
  ·
   intro l h; exact ⟨l, Xb1 (he l h), h⟩
  ·
   intro i hi ih l h
   obtain ⟨l', e, h'⟩ := hs i l hi h
   obtain ⟨o, e2, h2⟩ := ih l' h'
   exact ⟨o, lgo e e2, h2⟩
 exact key 0 (by omega) l0 h0
theorem Yr3 {f : Int × List Int → Option (Lp (Int × List Int) (List Int))} (n : Nat) (g : Nat → Int) (l : List Int) (hl : l.length = n) (hs : ∀ (i : Nat) (s : List Int), i < n → s.length = n → s.getD i 0 = l.getD i 0 → f ((i : Int), s) = some (.go (((i + 1 : Nat) : Int), s.set i (g i)))) (he : ∀ s : List Int, s.length = n → f ((n : Int), s) = some (.done s)) : loop f (0, l) = some ((List.range n).map g) := by
 obtain ⟨o, e, h1, h2, _⟩ := Xhy (f := f) n (fun i s => s.length = n ∧ (∀ j, j < i → s.getD j 0 = g j) ∧ ∀ j, i ≤ j → s.getD j 0 = l.getD j 0) (by
  intro i s hi ⟨g1, g2, g3⟩
  refine ⟨_, hs i s hi g1 (g3 i (Nat.le_refl _)), by rw [List.length_set]; exact g1, fun j hj => ?_, fun j hj => ?_⟩
  ·
   rw [Xfr s i j _ (by omega)]
   by_cases h : i = j
   ·
    rw [if_pos h, h]
   ·
    rw [if_neg h]; exact g2 j (by omega)
  ·
   rw [Xfr s i j _ (by omega), if_neg (by omega)]; exact g3 j (by omega)) (fun s hs => he s hs.1) l ⟨hl, fun j hj => by omega, fun _ _ => rfl⟩
 rw [e]
 congr 1
 exact Ye7 h1 (by simp) fun i hi => by rw [h2 i hi, Xjc g hi]
theorem Ype : Xmu = Xcw := rfl
theorem Yjc (qp : Int) (h0 : 0 ≤ qp ∧ qp ≤ 40) : Xgz qp = some (Xnl qp) := by
 have h := Yug ⟨qp.toNat, by omega⟩
 simp only at h
 rw [show ((qp.toNat : Nat) : Int) = qp by omega] at h
 unfold Xgz
 rw [Xak, Xad, decide_eq_true (by omega), Bool.not_true, Xaw, Xai (by omega)]
 have hb : (sel ((qp.tmod 6) == 0) (some (10 : Int)) (sel ((qp.tmod 6) == 1) (some 11) (sel ((qp.tmod 6) == 2) (some 13) (sel ((qp.tmod 6) == 3) (some 14) (sel ((qp.tmod 6) == 4) (some 16) (some 18)))))) = some (Xp4 qp) := by
  unfold Xp4
  simp only [Yl5, beq_iff_eq]
  repeat' split
  all_goals rfl
 rw [hb, Xad]
 unfold Xnl at h ⊢
 cases e : it (Xig qp) 10 (Xp4 qp, 0) with
 | none => rw [e] at h; simp only at h; omega
 | some q => rw [Xhz.2 ⟨10, e⟩, Xad]
theorem Ylf : ∀ q : Fin 41, Xkg (q.val : Int) = some (Xnl (q.val : Int)) := by decide +kernel
theorem Yh5 (qp : Int) (h0 : 0 ≤ qp ∧ qp ≤ 40) : Xkg qp = some (Xnl qp) := by
 have := Ylf ⟨qp.toNat, by omega⟩
 simp only at this
 rwa [show ((qp.toNat : Nat) : Int) = qp by omega] at this
theorem Ymw (qp : Int) (h0 : 0 ≤ qp ∧ qp ≤ 40) : Xkg qp = Xgz qp := by rw [Yh5 qp h0, Yjc qp h0]
theorem Xtf (u v : Nat) (hu : u < 8) (hv : v < 8) : Xgy u v = some (Xic u v) := by
 have h := Yub ⟨u, hu⟩ ⟨v, hv⟩
 simp only at h
 unfold Xgy
 rw [Xak, Xad, decide_eq_true (by omega), Xax, Xak, Xad, decide_eq_true (by omega), Bool.not_true, Xad, Xaw]
 unfold Xic at h ⊢
 cases e : it Xie 10 (1, (IntKind.wrap .i64 (BitVec.ofInt (IntKind.bits .i64) (u : Int) &&& BitVec.ofInt (IntKind.bits .i64) (v : Int)).toNat)) with
 | none => rw [e] at h; simp only at h; omega
 | some q => rw [Xhz.2 ⟨10, e⟩, Xad]
theorem Yle : ∀ u v : Fin 8, Xkf (u.val : Int) (v.val : Int) = some (Xic (u.val : Int) (v.val : Int)) := by decide +kernel
theorem Xy9 (u v : Nat) (hu : u < 8) (hv : v < 8) : Xkf u v = some (Xic u v) := Yle ⟨u, hu⟩ ⟨v, hv⟩
def Yl3 (qp p : Int) : Option Int :=
 bnd (Xkx p) fun q1 => bnd (Xbu q1 10 16 13) fun a1 => bnd (Xbu q1 11 18 14) fun a2 => bnd (Xbu q1 13 20 16) fun a3 => bnd (Xbu q1 14 23 18) fun a4 => bnd (Xbu q1 16 25 20) fun a5 => bnd (Xbu q1 18 29 23) fun a6 =>
 it (Xeb qp) 10 ((sel (qp.tmod 6 == 0) a1 (sel (qp.tmod 6 == 1) a2 (sel (qp.tmod 6 == 2) a3 (sel (qp.tmod 6 == 3) a4 (sel (qp.tmod 6 == 4) a5 (sel (qp.tmod 6 == 5) a6 0)))))), 0)
theorem Yt7 : ∀ q : Fin 41, ∀ p : Fin 16, (Yl3 (q.val : Int) (p.val : Int)).isSome = true ∧ Xlk (q.val : Int) (p.val : Int) = Yl3 (q.val : Int) (p.val : Int) := by decide +kernel
theorem Ykk (qp p : Int) (h0 : 0 ≤ qp ∧ qp ≤ 40) (hp : 0 ≤ p ∧ p ≤ 15) : Xlk qp p = Xgx qp p := by
 have := Yt7 ⟨qp.toNat, by omega⟩ ⟨p.toNat, by omega⟩
 simp only at this
 rw [show ((qp.toNat : Nat) : Int) = qp by omega, show ((p.toNat : Nat) : Int) = p by omega] at this
 obtain ⟨h1, h2⟩ := this
 rw [h2]
 cases e : Yl3 qp p with
 | none => rw [e] at h1; cases h1
 | some o =>
  unfold Yl3 at e
  unfold Xgx
  obtain ⟨k, ek, k0, k1⟩ := Xtd p hp
  rw [ek, Xad] at e ⊢
  rw [Xak, Xad, decide_eq_true h0, Xax, decide_eq_false (by omega), Xad, Xaw, Xai (by omega)]
  obtain ⟨a1, e1, b1⟩ := Xbs k 10 16 13
  obtain ⟨a2, e2, b2⟩ := Xbs k 11 18 14
  obtain ⟨a3, e3, b3⟩ := Xbs k 13 20 16
  obtain ⟨a4, e4, b4⟩ := Xbs k 14 23 18
  obtain ⟨a5, e5, b5⟩ := Xbs k 16 25 20
  obtain ⟨a6, e6, b6⟩ := Xbs k 18 29 23
  rw [e1, e2, e3, e4, e5, e6] at e ⊢
  simp only [Xad, Yua] at e ⊢
  rw [Ypn 10 e, Xad]
def Xo4 (n : Int) (v16 : Int × List Int) : Option (Lp (Int × List Int) (List Int)) :=
 sel (decide (v16.1 ≤ (Xaa .i64 ((Xaa .i64 (2 * n)) - 2)))) (
 bnd (it (Xjp n v16) 20 (0, v16.2)) fun v42 =>
 some (.go (Xaa .i64 (v16.1 + 1), v42))) (
 some (.done v16.2))
theorem Yoo {n : Int} {v : Int × List Int} {x : Lp (Int × List Int) (List Int)} (h : Xo4 n v = some x) : Xgj n v = some x := by
 unfold Xo4 at h
 unfold Xgj
 rcases Xp0 h with ⟨hb, h⟩ | ⟨hb, h⟩
 ·
  rw [hb, Xax]
  obtain ⟨a, h1, h2⟩ := Xba h
  rw [Xhz.2 ⟨20, h1⟩, Xad]
  exact h2
 ·
  rw [hb, Xaw]; exact h
def Yil (n : Int) : List Int := (it (Xo4 n) 20 (0, [])).getD []
theorem Yxx : (it (Xo4 4) 20 (0, [])).isSome = true ∧ (Yil 4).length = 16 := by decide +kernel
theorem Yxy : (it (Xo4 8) 20 (0, [])).isSome = true ∧ (Yil 8).length = 64 := by decide +kernel
theorem Yt8 : ∀ i : Fin 16, (Yil 4).getD i.val 0 = Xgr 4 (i.val : Int) := by decide +kernel
theorem Yt9 : ∀ i : Fin 64, (Yil 8).getD i.val 0 = Xgr 8 (i.val : Int) := by decide +kernel
theorem Xxx (n : Int) (hn : n = 4 ∨ n = 8) : Xh8 n = some (Yil n) ∧ ((Yil n).length : Int) = n * n ∧ ∀ i : Nat, (i : Int) < n * n → (Yil n).getD i 0 = Xgr n i := by
 have h : (it (Xo4 n) 20 (0, [])).isSome = true ∧ ((Yil n).length : Int) = n * n := by
  rcases hn with rfl | rfl
  ·
   have := Yxx; exact ⟨this.1, by omega⟩
  ·
   have := Yxy; exact ⟨this.1, by omega⟩
 refine ⟨?_, h.2, fun i hi => ?_⟩
 ·
  obtain ⟨o, ho⟩ := Option.isSome_iff_exists.1 h.1
  have hl := Ypn 20 (Yvj (fun v y => Yoo (n := n)) 20 _ ho)
  unfold Xh8
  rw [hl, Xad]
  unfold Yil; rw [ho]; rfl
 ·
  rcases hn with rfl | rfl
  ·
   exact Yt8 ⟨i, by omega⟩
  ·
   exact Yt9 ⟨i, by omega⟩
theorem Xqx (n : Int) (hn : n = 4 ∨ n = 8) (l : List Int) (hl : (l.length : Int) = n * n) : Xev n l = Xc5 n l := by
 obtain ⟨e, h1, h2⟩ := Xxx n hn
 have hw : Xaa .i64 (n * n) = n * n := by rcases hn with rfl | rfl <;> exact wk (by omega) (by omega)
 have hn2 : n * n ≤ 64 := by rcases hn with rfl | rfl <;> omega
 unfold Xev Xc5
 rw [e]
 have : loop (Xhi l (Yil n)) (0, List.replicate (l.length : Int).toNat 0) = loop (Xcd n l) (0, List.replicate (l.length : Int).toNat 0) := by
  refine Xx9 (fun v => (∃ i : Nat, v.1 = (i : Int) ∧ i ≤ l.length) ∧ v.2.length = l.length) ?_ ?_ ⟨⟨0, rfl, by omega⟩, by simp⟩
  ·
   intro ⟨i, s⟩ ⟨⟨k, ek, hk⟩, hs⟩
   simp only at hs ek
   subst ek
   unfold Xhi Xcd
   simp only [Int.toNat_natCast]
   rw [hw]
   by_cases hi : (k : Int) < n * n
   ·
    have hp := Xnu n hn k hi
    have h3 := h2 k hi
    simp only [h3]
    rw [Xaj (by omega), Xaj hi, Xod n hn k hi, Xad, Xai (by omega), Xai (by omega)]
   ·
    rw [Xal (by omega), Xal hi]
  ·
   intro ⟨i, s⟩ v' ⟨⟨k, ek, hk⟩, hs⟩ he
   simp only at hs ek
   subst ek
   unfold Xcd at he
   simp only [Int.toNat_natCast] at he
   rw [hw] at he
   by_cases hi : (k : Int) < n * n
   ·
    have hp := Xnu n hn k hi
    rw [Xaj hi, Xod n hn k hi, Xad, Xai (by omega), Xai (by omega), Xai (by omega), wk (by omega) (by omega)] at he
    cases he
    exact ⟨⟨k + 1, rfl, by omega⟩, by rw [List.length_set]; exact hs⟩
   ·
    rw [Xal hi] at he; cases he
 simp only [Xad, this]
def Ymp (t : Nat → Int) : Nat → Int
 | 0 => 0
 | k + 1 => Xaa .i64 (Ymp t k + t k)
def Yxt (p : List Int) (i v k : Nat) : Int := Xaa .i64 (Xic v k * p.getD (8 * i + k) 0)
def Yxe (p : List Int) (u v k : Nat) : Int := Xaa .i64 (Xic u k * p.getD (8 * k + v) 0)
def Xq1 (p : List Int) : List Int := (List.range 64).map fun j => Ymp (Yxt p (j / 8) (j % 8)) 8
def Ysf (p : List Int) : List Int := (List.range 64).map fun j => Ymp (Yxe (Xq1 p) (j / 8) (j % 8)) 8
theorem Ynj (p : List Int) : (Xq1 p).length = 64 := by simp [Xq1]
theorem Yui (p : List Int) : (Ysf p).length = 64 := by simp [Ysf]
theorem You {f1 : Int × List Int → Option (Lp (Int × List Int) (List Int))} {f2 : Int × List Int → Int × List Int → Option (Lp (Int × List Int) (List Int))} {f3 : Int × List Int → Int × List Int → Int × List Int → Option (Lp (Int × List Int) (List Int))} (t : Nat → Nat → Nat → Int)
  (h1 : ∀ v, f1 v = sel (decide (v.1 < 8)) (bnd (loop (f2 v) (0, v.2)) fun w => some (.go (Xaa .i64 (v.1 + 1), w))) (some (.done v.2)))
  (h2 : ∀ v w, f2 v w = sel (decide (w.1 < 8)) (bnd (loop (f3 v w) (0, w.2)) fun x => some (.go (Xaa .i64 (w.1 + 1), x))) (some (.done w.2)))
  (h3 : ∀ (i v k : Nat) (a b s : List Int), i < 8 → v < 8 → k < 8 → s.length = 64 → f3 ((i : Int), a) ((v : Int), b) ((k : Int), s) = some (.go (((k + 1 : Nat) : Int), s.set (8 * i + v) (Xaa .i64 (s.getD (8 * i + v) 0 + t i v k)))))
  (h4 : ∀ (i v : Nat) (a b s : List Int), f3 ((i : Int), a) ((v : Int), b) (8, s) = some (.done s)) : loop f1 (0, List.replicate 64 0) = some ((List.range 64).map fun j => Ymp (t (j / 8) (j % 8)) 8) := by
 obtain ⟨o, e, o1, o2, _⟩ := Xhy (f := f1) 8 (fun i s => s.length = 64 ∧ (∀ j, j < 8 * i → s.getD j 0 = Ymp (t (j / 8) (j % 8)) 8) ∧ ∀ j, 8 * i ≤ j → s.getD j 0 = 0) (by
  intro i s hi ⟨g1, g2, g3⟩
  obtain ⟨r, er, r1, r2, r3⟩ := Xhy (f := f2 ((i : Int), s)) 8 (fun v s => s.length = 64 ∧ (∀ j, j < 8 * i + v → s.getD j 0 = Ymp (t (j / 8) (j % 8)) 8) ∧ ∀ j, 8 * i + v ≤ j → s.getD j 0 = 0) (by
   intro v s' hv ⟨k1, k2, k3⟩
   obtain ⟨q, eq, q1, q2, q3⟩ := Xhy (f := f3 ((i : Int), s) ((v : Int), s')) 8 (fun k s => s.length = 64 ∧ (∀ j, j ≠ 8 * i + v → s.getD j 0 = s'.getD j 0) ∧ s.getD (8 * i + v) 0 = Ymp (t i v) k) (by
    intro k s'' hk ⟨m1, m2, m3⟩
    refine ⟨_, h3 i v k s s' s'' hi hv hk m1, by rw [List.length_set]; exact m1, fun j hj => ?_, ?_⟩
    ·
     rw [Xfr _ _ _ _ (by omega), if_neg (fun h => hj h.symm)]; exact m2 j hj
    ·
     rw [Xfr _ _ _ _ (by omega), if_pos rfl, m3]; rfl) (fun z _ => h4 i v s s' z) s' ⟨k1, fun _ _ => rfl, by rw [k3 _ (Nat.le_refl _)]; rfl⟩
   refine ⟨q, by rw [h2, Xaj (by simp only; omega), eq, Xad, wk (by simp only; omega) (by simp only; omega)]; rfl, q1, fun j hj => ?_, fun j hj => ?_⟩
   ·
    by_cases h : j = 8 * i + v
    ·
     rw [h, q3, show (8 * i + v) / 8 = i by omega, show (8 * i + v) % 8 = v by omega]
    ·
     rw [q2 j h]; exact k2 j (by omega)
   ·
    rw [q2 j (by omega)]; exact k3 j (by omega)) (fun z _ => by rw [h2, Xal (by simp)]) s ⟨g1, g2, g3⟩
  refine ⟨r, by rw [h1, Xaj (by simp only; omega), er, Xad, wk (by simp only; omega) (by simp only; omega)]; rfl, r1, fun j hj => r2 j (by omega), fun j hj => r3 j (by omega)⟩) (fun z _ => by rw [h1, Xal (by simp)]) (List.replicate 64 0) ⟨by simp, fun j hj => by omega, fun j _ => by
   by_cases h : j < 64
   ·
    rw [Xci _ _ (by rw [List.length_replicate]; exact h)]; exact List.getElem_replicate ..
   ·
    rw [List.getD_eq_getElem?_getD, List.getElem?_eq_none (by rw [List.length_replicate]; omega)]; rfl⟩
 rw [e]
 congr 1
 exact Ye7 o1 (by simp) fun j hj => by rw [o2 j (by omega), Xjc (fun j => Ymp (t (j / 8) (j % 8)) 8) hj]
theorem Ynr (p : List Int) (hp : p.length = 64) : Xq7 p = some (Ysf p) := by
 unfold Xq7
 rw [Xai (by omega)]
 have e1 : loop (Xps p) (0, List.replicate (64 : Int).toNat 0) = some (Xq1 p) :=
  You (f2 := Xpt p) (f3 := Xjr p) (fun i v k => Yxt p i v k) (fun _ => rfl) (fun _ _ => rfl) (fun i v k a b s hi hv hk hs => by
   unfold Xjr
   simp only
   rw [Xaj (by omega), wk (e := 8 * (i : Int)) (by omega) (by omega), wk (e := 8 * (i : Int) + (v : Int)) (by omega) (by omega), wk (e := 8 * (i : Int) + (k : Int)) (by omega) (by omega), Xai (by omega), Xai (by omega), Xy9 v k hv hk, Xad, Xai (by omega), Xai (by omega), Xai (by omega), wk (e := (k : Int) + 1) (by omega) (by omega), show (8 * (i : Int) + (v : Int)).toNat = 8 * i + v by omega, show (8 * (i : Int) + (k : Int)).toNat = 8 * i + k by omega]
   rfl) (fun i v a b s => by unfold Xjr; rw [Xal (by simp)])
 have e2 : loop (Xn4 (Xq1 p)) (0, List.replicate (64 : Int).toNat 0) = some (Ysf p) :=
  You (f2 := Xn5 (Xq1 p)) (f3 := Xh9 (Xq1 p)) (fun i v k => Yxe (Xq1 p) i v k) (fun _ => rfl) (fun _ _ => rfl) (fun i v k a b s hi hv hk hs => by
   have hl := Ynj p
   unfold Xh9
   simp only
   rw [Xaj (by omega), wk (e := 8 * (i : Int)) (by omega) (by omega), wk (e := 8 * (i : Int) + (v : Int)) (by omega) (by omega), wk (e := 8 * (k : Int)) (by omega) (by omega), wk (e := 8 * (k : Int) + (v : Int)) (by omega) (by omega), Xai (by omega), Xai (by omega), Xy9 i k hi hk, Xad, Xai (by omega), Xai (by omega), Xai (by omega), Xai (by omega), wk (e := (k : Int) + 1) (by omega) (by omega), show (8 * (i : Int) + (v : Int)).toNat = 8 * i + v by omega, show (8 * (k : Int) + (v : Int)).toNat = 8 * k + v by omega]
   rfl) (fun i v a b s => by unfold Xh9; rw [Xal (by simp)])
 rw [e1, Xad, Xai (by omega), e2, Xad]
theorem Yjn (p : List Int) (hp : p.length = 64) (i v : Nat) (hi : i < 8) (hv : v < 8) : Xit p i v = some (Ymp (Yxt p i v) 8) := by
 obtain ⟨o, e, h⟩ := Xnn (f := Xdy p i v) 8 (fun k s => s = Ymp (Yxt p i v) k) (by
  intro k s hk g
  subst g
  unfold Xdy
  simp only
  rw [Xaj (by omega), wk (e := 8 * (i : Int)) (by omega) (by omega), wk (e := 8 * (i : Int) + (k : Int)) (by omega) (by omega), Xai (by omega), Xtf v k hv hk, Xad, wk (e := (k : Int) + 1) (by omega) (by omega), show (8 * (i : Int) + (k : Int)).toNat = 8 * i + k by omega, Int.mul_comm (p.getD _ _)]
  exact ⟨_, rfl, rfl⟩) (by intro s; unfold Xdy; rw [Xal (by simp)]) 0 rfl
 unfold Xit
 rw [e, Xad, h]
theorem Ygz (p : List Int) (hp : p.length = 64) : Xg5 p = some (Ysf p) := by
 have hm : maxLen = 9223372036854775807 := rfl
 unfold Xg5
 obtain ⟨o, e, ho⟩ := Xe5 (f := Xcx p) 8 (fun i s => s = (List.range (8 * i)).map fun j => Ymp (Yxt p (j / 8) (j % 8)) 8) (by
  intro i s hi g
  subst g
  obtain ⟨r, er, hr⟩ := Xe5 (f := Xcy p ((i : Int), (List.range (8 * i)).map fun j => Ymp (Yxt p (j / 8) (j % 8)) 8)) 8 (fun v s => s = (List.range (8 * i + v)).map fun j => Ymp (Yxt p (j / 8) (j % 8)) 8) (by
   intro v s hv g
   subst g
   unfold Xcy
   simp only
   rw [Xaj (by omega), Yjn p hp i v hi hv, Xad, Xai (by simp only [List.length_singleton, List.length_map, List.length_range]; omega), wk (e := (v : Int) + 1) (by omega) (by omega)]
   refine ⟨_, rfl, ?_⟩
   rw [show 8 * i + (v + 1) = (8 * i + v) + 1 by omega, List.range_succ, List.map_append, List.map_singleton, show (8 * i + v) / 8 = i by omega, show (8 * i + v) % 8 = v by omega]) (by intro s; unfold Xcy; rw [Xal (by simp)]) _ rfl
  rw [Nat.add_zero] at er
  unfold Xcx
  simp only
  rw [Xaj (by omega), er, Xad, wk (e := (i : Int) + 1) (by omega) (by omega)]
  exact ⟨_, rfl, by rw [hr, show 8 * (i + 1) = 8 * i + 8 by omega]⟩) (by intro s; unfold Xcx; rw [Xal (by simp)]) [] rfl
 have ho' : o = Xq1 p := by rw [ho]; rfl
 rw [e, Xad, ho']
 obtain ⟨o2, e2, ho2⟩ := Xe5 (f := Xce (Xq1 p)) 8 (fun i s => s = (List.range (8 * i)).map fun j => Ymp (Yxe (Xq1 p) (j / 8) (j % 8)) 8) (by
  intro i s hi g
  subst g
  obtain ⟨r, er, hr⟩ := Xe5 (f := Xcf (Xq1 p) ((i : Int), (List.range (8 * i)).map fun j => Ymp (Yxe (Xq1 p) (j / 8) (j % 8)) 8)) 8 (fun v s => s = (List.range (8 * i + v)).map fun j => Ymp (Yxe (Xq1 p) (j / 8) (j % 8)) 8) (by
   intro v s hv g
   obtain ⟨c, ec, hc⟩ := Xnn (f := Xcg (Xq1 p) ((i : Int), (List.range (8 * i)).map fun j => Ymp (Yxe (Xq1 p) (j / 8) (j % 8)) 8) ((v : Int), s)) 8 (fun k x => x = Ymp (Yxe (Xq1 p) i v) k) (by
    intro k x hk g
    subst g
    have hl := Ynj p
    unfold Xcg
    simp only
    rw [Xaj (by omega), Xtf i k hi hk, Xad, wk (e := 8 * (k : Int)) (by omega) (by omega), wk (e := 8 * (k : Int) + (v : Int)) (by omega) (by omega), Xai (by omega), Xai (by omega), wk (e := (k : Int) + 1) (by omega) (by omega), show (8 * (k : Int) + (v : Int)).toNat = 8 * k + v by omega]
    exact ⟨_, rfl, rfl⟩) (by intro s; unfold Xcg; rw [Xal (by simp)]) 0 rfl
   subst g
   unfold Xcf
   simp only
   rw [Xaj (by omega), ec, Xad, Xai (by simp only [List.length_singleton, List.length_map, List.length_range]; omega), wk (e := (v : Int) + 1) (by omega) (by omega)]
   refine ⟨_, rfl, ?_⟩
   rw [hc, show 8 * i + (v + 1) = (8 * i + v) + 1 by omega, List.range_succ, List.map_append, List.map_singleton, show (8 * i + v) / 8 = i by omega, show (8 * i + v) % 8 = v by omega]) (by intro s; unfold Xcf; rw [Xal (by simp)]) _ rfl
  rw [Nat.add_zero] at er
  unfold Xce
  simp only
  rw [Xaj (by omega), er, Xad, wk (e := (i : Int) + 1) (by omega) (by omega)]
  exact ⟨_, rfl, by rw [hr, show 8 * (i + 1) = 8 * i + 8 by omega]⟩) (by intro s; unfold Xce; rw [Xal (by simp)]) [] rfl
 rw [e2, Xad, ho2]
 rfl
theorem Yc6 (l : List Int) (n B : Int) (hn : (l.length : Int) = n) (hn2 : n ≤ 1000000) (h : inB B l) : Xd1 l n (-B) B = some true := by
 rw [Xmk l n (-B) B (by omega), hn, beq_self_eq_true, Bool.and_true]
 congr 1
 rw [List.all_eq_true]
 intro x hx
 rw [decide_eq_true_eq]; exact h x hx
theorem Xv7 (o : List Int) {f : Int × List Int → Option (Lp (Int × List Int) (List Int))} (n : Nat) (hn : n ≤ 64) (hl : o.length = n) (hf : ∀ v : Int × List Int, f v = sel (decide (v.1 < (n : Int))) (req (0 ≤ v.1 ∧ v.1 < v.2.length) <| req (v.1.toNat < v.2.length) <| bnd (Xcw (Xaa .i64 ((v.2.getD v.1.toNat 0) + 32)) 64) fun q => req (0 ≤ v.1 ∧ v.1 < v.2.length) <| req (v.1.toNat < v.2.length) <| some (.go (Xaa .i64 (v.1 + 1), (v.2.set v.1.toNat q)))) (some (.done v.2))) : bnd (Xi2 o) (fun q => some q.2) = bnd (loop f (0, o)) fun q => some q := by
 unfold Xi2
 have : Xm7 o = f := by
  funext v
  rw [hf, ← hl]; rfl
 rw [this]
 cases loop f (0, o) <;> rfl
theorem Ycz (p : List Int) (hl : p.length = 64) (hb : inB 10000000 p) : Xh3 p = Xe0 p := by
 unfold Xh3 Xe0
 rw [Yc6 p 64 10000000 (by omega) (by omega) hb, Xi3 p 64 10000000 (by omega) (by omega) (by omega) hb, Xad, Xad, Bool.not_true, Xaw, Xaw, Ynr p hl, Ygz p hl, Xad, Xad]
 exact Xv7 (Ysf p) 64 (by omega) (Yui p) (fun _ => rfl)
def tgA (q : Int → Int → Int → Int → Option (Int × Int × Int × Int)) (v4 : (Int × (List Int))) : Option (Lp (Int × (List Int)) (List Int)) :=
 sel (decide (v4.1 < 16)) (
 req (0 ≤ v4.1 ∧ v4.1 < v4.2.length) <|
 req (v4.1.toNat < v4.2.length) <|
 req (0 ≤ (Xaa .i64 (v4.1 + 1)) ∧ (Xaa .i64 (v4.1 + 1)) < v4.2.length) <|
 req ((Xaa .i64 (v4.1 + 1)).toNat < v4.2.length) <|
 req (0 ≤ (Xaa .i64 (v4.1 + 2)) ∧ (Xaa .i64 (v4.1 + 2)) < v4.2.length) <|
 req ((Xaa .i64 (v4.1 + 2)).toNat < v4.2.length) <|
 req (0 ≤ (Xaa .i64 (v4.1 + 3)) ∧ (Xaa .i64 (v4.1 + 3)) < v4.2.length) <|
 req ((Xaa .i64 (v4.1 + 3)).toNat < v4.2.length) <|
 bnd (q (v4.2.getD v4.1.toNat 0) (v4.2.getD ((Xaa .i64 (v4.1 + 1)).toNat) 0) (v4.2.getD ((Xaa .i64 (v4.1 + 2)).toNat) 0) (v4.2.getD ((Xaa .i64 (v4.1 + 3)).toNat) 0)) fun q8 =>
 req (0 ≤ v4.1 ∧ v4.1 ≤ (Xaa .i64 (v4.1 + 4)) ∧ (Xaa .i64 (v4.1 + 4)) ≤ (v4.2.length : Int)) <|
 req ((v4.1.toNat + ((Xaa .i64 (v4.1 + 4)).toNat - v4.1.toNat) ≤ v4.2.length ∧ ([q8.1, q8.2.1, q8.2.2.1, q8.2.2.2]).length ≤ ((Xaa .i64 (v4.1 + 4)).toNat - v4.1.toNat))) <|
 some (.go (Xaa .i64 (v4.1 + 4), (over v4.2 v4.1.toNat ([q8.1, q8.2.1, q8.2.2.1, q8.2.2.2]))))) (
 some (.done v4.2))
def tgB (v17 : (Int × (List Int))) (q26 : (Int × Int × Int × Int)) (v28 : (Int × (List Int))) : Option (Lp (Int × (List Int)) (List Int)) :=
 sel (decide (v28.1 < 4)) (
 req (0 ≤ v28.1 ∧ v28.1 < ([q26.1, q26.2.1, q26.2.2.1, q26.2.2.2] : List Int).length) <|
 req (0 ≤ (Xaa .i64 (v17.1 + (Xaa .i64 (4 * v28.1)))) ∧ (Xaa .i64 (v17.1 + (Xaa .i64 (4 * v28.1)))) < v28.2.length) <|
 req ((Xaa .i64 (v17.1 + (Xaa .i64 (4 * v28.1)))).toNat < v28.2.length) <|
 some (.go (Xaa .i64 (v28.1 + 1), (v28.2.set ((Xaa .i64 (v17.1 + (Xaa .i64 (4 * v28.1)))).toNat) (([q26.1, q26.2.1, q26.2.2.1, q26.2.2.2] : List Int).getD v28.1.toNat 0))))) (
 some (.done v28.2))
noncomputable def tgC (q : Int → Int → Int → Int → Option (Int × Int × Int × Int)) (v17 : (Int × (List Int))) : Option (Lp (Int × (List Int)) (List Int)) :=
 sel (decide (v17.1 < 4)) (
 req (0 ≤ v17.1 ∧ v17.1 < v17.2.length) <|
 req (v17.1.toNat < v17.2.length) <|
 req (0 ≤ (Xaa .i64 (v17.1 + 4)) ∧ (Xaa .i64 (v17.1 + 4)) < v17.2.length) <|
 req ((Xaa .i64 (v17.1 + 4)).toNat < v17.2.length) <|
 req (0 ≤ (Xaa .i64 (v17.1 + 8)) ∧ (Xaa .i64 (v17.1 + 8)) < v17.2.length) <|
 req ((Xaa .i64 (v17.1 + 8)).toNat < v17.2.length) <|
 req (0 ≤ (Xaa .i64 (v17.1 + 12)) ∧ (Xaa .i64 (v17.1 + 12)) < v17.2.length) <|
 req ((Xaa .i64 (v17.1 + 12)).toNat < v17.2.length) <|
 bnd (q (v17.2.getD v17.1.toNat 0) (v17.2.getD ((Xaa .i64 (v17.1 + 4)).toNat) 0) (v17.2.getD ((Xaa .i64 (v17.1 + 8)).toNat) 0) (v17.2.getD ((Xaa .i64 (v17.1 + 12)).toNat) 0)) fun q26 =>
 bnd (loop (tgB v17 q26) (0, v17.2)) fun v30 =>
 some (.go (Xaa .i64 (v17.1 + 1), v30))) (
 some (.done v17.2))
noncomputable def Yx8 (q : Int → Int → Int → Int → Option (Int × Int × Int × Int)) (p0 : (List Int)) : Option (List Int) :=
 bnd (Xem p0) fun q1 =>
 bnd (loop (tgA q) (0, q1)) fun v7 =>
 bnd (loop (tgC q) (0, v7)) fun v25 =>
 some v25
theorem Yul : Xcn = Yx8 Xd4 := rfl
abbrev Q4 := Int × Int × Int × Int
def Yoc (q : Q4) (i : Nat) : Int := [q.1, q.2.1, q.2.2.1, q.2.2.2].getD i 0
def Xt9 (t : Int → Int → Int → Int → Q4) (p : List Int) : List Int := (List.range 16).map fun j => Yoc (t (p.getD (4 * (j / 4)) 0) (p.getD (4 * (j / 4) + 1) 0) (p.getD (4 * (j / 4) + 2) 0) (p.getD (4 * (j / 4) + 3) 0)) (j % 4)
def Xuz (p : List Int) : List Int := (List.range 16).map fun j => p.getD (j % 4 * 4 + j / 4) 0
theorem Xv4 (t : Int → Int → Int → Int → Q4) (p : List Int) : (Xt9 t p).length = 16 := by simp [Xt9]
theorem Xu0 (p : List Int) : (Xuz p).length = 16 := by simp [Xuz]
theorem Yoa {l m : List Int} {i : Nat} (h : i + m.length ≤ l.length) (j : Nat) : (over l i m).getD j 0 = if i ≤ j ∧ j < i + m.length then m.getD (j - i) 0 else l.getD j 0 := by
 rw [List.getD_eq_getElem?_getD, Ycw h]
 split <;> rw [List.getD_eq_getElem?_getD]
theorem Ywk {q : Int → Int → Int → Int → Option Q4} {t : Int → Int → Int → Int → Q4} (hq : ∀ a b c d, q a b c d = some (t a b c d)) (p : List Int) (hp : p.length = 16) : Yx8 q p = some (Xuz (Xt9 t (Xuz (Xt9 t p)))) := by
 have hm : maxLen = 9223372036854775807 := rfl
 unfold Yx8 Xem
 rw [Xai (by simp only [List.length_nil]; omega), Xad, List.nil_append]
 have hA : loop (tgA q) (0, p) = some (Xt9 t p) := by
  have key : ∀ r : Nat, r ≤ 4 → ∀ s : List Int, s.length = 16 → (∀ j, j < 4 * r → s.getD j 0 = (Xt9 t p).getD j 0) → (∀ j, 4 * r ≤ j → s.getD j 0 = p.getD j 0) → loop (tgA q) (((4 * r : Nat) : Int), s) = some (Xt9 t p) := by
   refine Xdk _ ?_ ?_
   ·
    intro s h1 h2 _
    refine Xb1 ?_
    unfold tgA
    rw [Xal (by simp), Ye7 h1 (Xv4 t p) h2]
   ·
    intro r hr ih s h1 h2 h3
    refine lgo (y := (((4 * (r + 1) : Nat) : Int), over s (4 * r) [Yoc (t (p.getD (4 * r) 0) (p.getD (4 * r + 1) 0) (p.getD (4 * r + 2) 0) (p.getD (4 * r + 3) 0)) 0, Yoc (t (p.getD (4 * r) 0) (p.getD (4 * r + 1) 0) (p.getD (4 * r + 2) 0) (p.getD (4 * r + 3) 0)) 1, Yoc (t (p.getD (4 * r) 0) (p.getD (4 * r + 1) 0) (p.getD (4 * r + 2) 0) (p.getD (4 * r + 3) 0)) 2, Yoc (t (p.getD (4 * r) 0) (p.getD (4 * r + 1) 0) (p.getD (4 * r + 2) 0) (p.getD (4 * r + 3) 0)) 3])) ?_ (ih _ ?_ ?_ ?_)
    ·
     unfold tgA
     simp only
     rw [Xaj (by omega), wk (e := ((4 * r : Nat) : Int) + 1) (by omega) (by omega), wk (e := ((4 * r : Nat) : Int) + 2) (by omega) (by omega), wk (e := ((4 * r : Nat) : Int) + 3) (by omega) (by omega), wk (e := ((4 * r : Nat) : Int) + 4) (by omega) (by omega)]
     rw [Xai (by omega), Xai (by omega), Xai (by omega), Xai (by omega), Xai (by omega), Xai (by omega), Xai (by omega), Xai (by omega), hq, Xad, Xai (by omega), Xai (by simp only [List.length_cons, List.length_nil]; omega)]
     rw [show (((4 * r : Nat) : Int) + 1).toNat = 4 * r + 1 by omega, show (((4 * r : Nat) : Int) + 2).toNat = 4 * r + 2 by omega, show (((4 * r : Nat) : Int) + 3).toNat = 4 * r + 3 by omega, Int.toNat_natCast, h3 _ (by omega), h3 _ (by omega), h3 _ (by omega), h3 _ (by omega)]
     rfl
    ·
     rw [Xpy (by simp only [List.length_cons, List.length_nil]; omega)]; exact h1
    ·
     intro j hj
     rw [Yoa (by simp only [List.length_cons, List.length_nil]; omega)]
     simp only [List.length_cons, List.length_nil]
     by_cases h : 4 * r ≤ j
     ·
      rw [if_pos (by omega)]
      unfold Xt9
      rw [Xjc _ (by omega), show 4 * (j / 4) = 4 * r by omega]
      obtain h | h | h | h : j = 4 * r ∨ j = 4 * r + 1 ∨ j = 4 * r + 2 ∨ j = 4 * r + 3 := by omega
      ·
       rw [h, show 4 * r - 4 * r = 0 by omega, show (4 * r) % 4 = 0 by omega]; rfl
      ·
       rw [h, show 4 * r + 1 - 4 * r = 1 by omega, show (4 * r + 1) % 4 = 1 by omega]; rfl
      ·
       rw [h, show 4 * r + 2 - 4 * r = 2 by omega, show (4 * r + 2) % 4 = 2 by omega]; rfl
      ·
       rw [h, show 4 * r + 3 - 4 * r = 3 by omega, show (4 * r + 3) % 4 = 3 by omega]; rfl
     ·
      rw [if_neg (by omega)]; exact h2 j (by omega)
    ·
     intro j hj
     rw [Yoa (by simp only [List.length_cons, List.length_nil]; omega), if_neg (by simp only [List.length_cons, List.length_nil]; omega)]
     exact h3 j (by omega)
  exact key 0 (by omega) p hp (fun j hj => by omega) fun _ _ => rfl
 rw [hA, Xad]
 generalize hR : Xt9 t p = R
 have hl : R.length = 16 := by rw [← hR]; exact Xv4 t p
 have hC : loop (tgC q) (0, R) = some (Xuz (Xt9 t (Xuz R))) := by
  have at4 : ∀ j : Nat, j < 16 → (Xuz (Xt9 t (Xuz R))).getD j 0 = Yoc (t (R.getD (j % 4) 0) (R.getD (j % 4 + 4) 0) (R.getD (j % 4 + 8) 0) (R.getD (j % 4 + 12) 0)) (j / 4) := by
   intro j hj
   rw [Xuz, Xjc _ hj, Xt9, Xjc _ (by omega), Xuz, Xjc _ (by omega), Xjc _ (by omega), Xjc _ (by omega), Xjc _ (by omega)]
   rw [show (j % 4 * 4 + j / 4) / 4 = j % 4 by omega, show (j % 4 * 4 + j / 4) % 4 = j / 4 by omega, show 4 * (j % 4) % 4 * 4 + 4 * (j % 4) / 4 = j % 4 by omega, show (4 * (j % 4) + 1) % 4 * 4 + (4 * (j % 4) + 1) / 4 = j % 4 + 4 by omega, show (4 * (j % 4) + 2) % 4 * 4 + (4 * (j % 4) + 2) / 4 = j % 4 + 8 by omega, show (4 * (j % 4) + 3) % 4 * 4 + (4 * (j % 4) + 3) / 4 = j % 4 + 12 by omega]
  obtain ⟨o, e, o1, o2, _⟩ := Xhy (f := tgC q) 4 (fun c s => s.length = 16 ∧ (∀ j, j < 16 → j % 4 < c → s.getD j 0 = (Xuz (Xt9 t (Xuz R))).getD j 0) ∧ ∀ j, j < 16 → c ≤ j % 4 → s.getD j 0 = R.getD j 0) (by
   intro c s hc ⟨g1, g2, g3⟩
   obtain ⟨r, er, r1, r2, r3⟩ := Xhy (f := tgB ((c : Int), s) (t (R.getD c 0) (R.getD (c + 4) 0) (R.getD (c + 8) 0) (R.getD (c + 12) 0))) 4 (fun i s' => s'.length = 16 ∧ (∀ j, j < 16 → j % 4 ≠ c → s'.getD j 0 = s.getD j 0) ∧ ∀ j, j < 16 → j % 4 = c → j / 4 < i → s'.getD j 0 = Yoc (t (R.getD c 0) (R.getD (c + 4) 0) (R.getD (c + 8) 0) (R.getD (c + 12) 0)) (j / 4)) (by
    intro i s' hi ⟨k1, k2, k3⟩
    unfold tgB
    simp only
    rw [Xaj (by omega), Xai (by simp only [List.length_cons, List.length_nil]; omega), wk (e := 4 * (i : Int)) (by omega) (by omega), wk (e := (c : Int) + 4 * (i : Int)) (by omega) (by omega), Xai (by omega), Xai (by omega), wk (e := (i : Int) + 1) (by omega) (by omega), show ((c : Int) + 4 * (i : Int)).toNat = c + 4 * i by omega, Int.toNat_natCast]
    refine ⟨_, rfl, by rw [List.length_set]; exact k1, fun j hj hjc => ?_, fun j hj hjc hji => ?_⟩
    ·
     rw [Xfr _ _ _ _ (by omega), if_neg (by omega)]; exact k2 j hj hjc
    ·
     rw [Xfr _ _ _ _ (by omega)]
     by_cases h : c + 4 * i = j
     ·
      rw [if_pos h, show j / 4 = i by omega]; rfl
     ·
      rw [if_neg h]; exact k3 j hj hjc (by omega)) (fun z _ => by unfold tgB; rw [Xal (by simp)]) s ⟨g1, fun _ _ _ => rfl, fun j hj hjc hji => by omega⟩
   unfold tgC
   simp only
   rw [Xaj (by omega), wk (e := (c : Int) + 4) (by omega) (by omega), wk (e := (c : Int) + 8) (by omega) (by omega), wk (e := (c : Int) + 12) (by omega) (by omega), Xai (by omega), Xai (by omega), Xai (by omega), Xai (by omega), Xai (by omega), Xai (by omega), Xai (by omega), Xai (by omega), hq, Xad, show ((c : Int) + 4).toNat = c + 4 by omega, show ((c : Int) + 8).toNat = c + 8 by omega, show ((c : Int) + 12).toNat = c + 12 by omega, Int.toNat_natCast, g3 c (by omega) (by omega), g3 (c + 4) (by omega) (by omega), g3 (c + 8) (by omega) (by omega), g3 (c + 12) (by omega) (by omega), er, Xad, wk (e := (c : Int) + 1) (by omega) (by omega)]
   refine ⟨r, rfl, r1, fun j hj hjc => ?_, fun j hj hjc => ?_⟩
   ·
    by_cases h : j % 4 = c
    ·
     rw [r3 j hj h (by omega), at4 j hj, h]
    ·
     rw [r2 j hj h]; exact g2 j hj (by omega)
   ·
    rw [r2 j hj (by omega)]; exact g3 j hj (by omega)) (fun z _ => by unfold tgC; rw [Xal (by simp)]) R ⟨hl, fun j hj hjc => by omega, fun _ _ _ => rfl⟩
  rw [e]
  congr 1
  exact Ye7 o1 (Xu0 _) fun j hj => o2 j hj (by omega)
 rw [hC, Xad]
theorem Xrp (p : List Int) (hl : p.length = 16) : Xfp p = some (Xuz p) := by
 unfold Xfp
 rw [Xai (by omega)]
 obtain ⟨o, e, o1, o2⟩ := Xhy (f := Xdf p) 16 (fun i s => s.length = 16 ∧ ∀ j, j < 16 → j % 4 * 4 + j / 4 < i → s.getD j 0 = p.getD (j % 4 * 4 + j / 4) 0) (by
  intro i s hi ⟨g1, g2⟩
  unfold Xdf
  simp only
  rw [Xaj (by omega), Xai (by omega), Xai (by omega), Xai (by omega), Xch (by omega), Xbn (by omega), wk (e := (i : Int) / 4) (by omega) (by omega), wk (e := (i : Int) % 4 * 4) (by omega) (by omega), wk (e := (i : Int) % 4 * 4 + (i : Int) / 4) (by omega) (by omega), Xai (by omega), Xai (by omega), wk (e := (i : Int) + 1) (by omega) (by omega), Int.toNat_natCast, show ((i : Int) % 4 * 4 + (i : Int) / 4).toNat = i % 4 * 4 + i / 4 by omega]
  refine ⟨_, rfl, by rw [List.length_set]; exact g1, fun j hj hji => ?_⟩
  rw [Xfr _ _ _ _ (by omega)]
  by_cases h : i % 4 * 4 + i / 4 = j
  ·
   rw [if_pos h, show j % 4 * 4 + j / 4 = i by omega]
  ·
   rw [if_neg h]; exact g2 j hj (by omega)) (fun z _ => by unfold Xdf; rw [Xal (by simp)]) (List.replicate (16 : Int).toNat 0) ⟨by simp, fun j hj h => by omega⟩
 rw [e, Xad]
 congr 1
 exact Ye7 o1 (Xu0 p) fun j hj => by rw [o2 j hj (by omega), Xuz, Xjc _ hj]
theorem Yt4 {f : Int × List Int → Option (Lp (Int × List Int) (List Int))} {t : Int → Int → Int → Int → Q4} (p : List Int) (h : ∀ (i : Nat) (s : List Int), i < 4 → s.length = 4 * i → f ((i : Int), s) = some (.go (((i + 1 : Nat) : Int), s ++ [(t (p.getD (4 * i) 0) (p.getD (4 * i + 1) 0) (p.getD (4 * i + 2) 0) (p.getD (4 * i + 3) 0)).1, (t (p.getD (4 * i) 0) (p.getD (4 * i + 1) 0) (p.getD (4 * i + 2) 0) (p.getD (4 * i + 3) 0)).2.1, (t (p.getD (4 * i) 0) (p.getD (4 * i + 1) 0) (p.getD (4 * i + 2) 0) (p.getD (4 * i + 3) 0)).2.2.1, (t (p.getD (4 * i) 0) (p.getD (4 * i + 1) 0) (p.getD (4 * i + 2) 0) (p.getD (4 * i + 3) 0)).2.2.2]))) (he : ∀ s, f (4, s) = some (.done s)) : loop f (0, []) = some (Xt9 t p) := by
 obtain ⟨o, e, ho⟩ := Xhy (f := f) 4 (fun i s => s = (List.range (4 * i)).map fun j => Yoc (t (p.getD (4 * (j / 4)) 0) (p.getD (4 * (j / 4) + 1) 0) (p.getD (4 * (j / 4) + 2) 0) (p.getD (4 * (j / 4) + 3) 0)) (j % 4)) (by
  intro i s hi g
  refine ⟨_, h i s hi (by rw [g]; simp), ?_⟩
  rw [g, show 4 * (i + 1) = 4 * i + 1 + 1 + 1 + 1 by omega]
  simp only [List.range_succ, List.map_append, List.map_singleton, List.append_assoc]
  rw [show (4 * i + 1 + 1 + 1) / 4 = i by omega, show (4 * i + 1 + 1) / 4 = i by omega, show (4 * i + 1) / 4 = i by omega, show 4 * i / 4 = i by omega, show (4 * i + 1 + 1 + 1) % 4 = 3 by omega, show (4 * i + 1 + 1) % 4 = 2 by omega, show (4 * i + 1) % 4 = 1 by omega, show 4 * i % 4 = 0 by omega]
  rfl) (fun z _ => he z) [] rfl
 rw [e, ho]; rfl
def Yjz (a b : Int) : Int := Xaa .i64 (if a.tmod b < 0 then Xaa .i64 (a.tdiv b) - 1 else a.tdiv b)
theorem Xr5 (a b : Int) (hb : b ≠ 0) : Xcw a b = some (Yjz a b) := by
 unfold Xcw Yjz
 rw [Xai hb, Xai hb, Yl4]
 split <;> rfl
def t4B (a b c d : Int) : Q4 := (Xaa .i64 ((Xaa .i64 (a + c)) + (Xaa .i64 (b + Yjz d 2))), Xaa .i64 ((Xaa .i64 (a - c)) + (Xaa .i64 (Yjz b 2 - d))), Xaa .i64 ((Xaa .i64 (a - c)) - (Xaa .i64 (Yjz b 2 - d))), Xaa .i64 ((Xaa .i64 (a + c)) - (Xaa .i64 (b + Yjz d 2))))
theorem Xu7 (a b c d : Int) : Xd4 a b c d = some (t4B a b c d) := by
 unfold Xd4
 rw [Ype, Xr5 b 2 (by omega), Xr5 d 2 (by omega), Xad, Xad]; rfl
theorem Xqk (p : List Int) (hl : p.length = 16) : Xes p = some (Xt9 t4B p) := by
 have hm : maxLen = 9223372036854775807 := rfl
 unfold Xes
 rw [Yt4 (f := Xcv p) (t := t4B) p (by
  intro i s hi hs
  unfold Xcv
  simp only
  rw [Xaj (by omega), wk (e := 4 * (i : Int)) (by omega) (by omega), wk (e := 4 * (i : Int) + 1) (by omega) (by omega), wk (e := 4 * (i : Int) + 2) (by omega) (by omega), wk (e := 4 * (i : Int) + 3) (by omega) (by omega), Xai (by omega), Xai (by omega), Xai (by omega), Xai (by omega), show (4 * (i : Int)).toNat = 4 * i by omega, show (4 * (i : Int) + 1).toNat = 4 * i + 1 by omega, show (4 * (i : Int) + 2).toNat = 4 * i + 2 by omega, show (4 * (i : Int) + 3).toNat = 4 * i + 3 by omega, Xr5 _ 2 (by omega), Xad, Xr5 _ 2 (by omega), Xad, wk (e := (i : Int) + 1) (by omega) (by omega), Xai (by simp only [List.length_cons, List.length_nil]; omega)]
  rfl) (by intro s; unfold Xcv; rw [Xal (by simp)]), Xad]
theorem Yhi (p : List Int) (hl : p.length = 16) (hb : inB 10000000 p) : Xjg p = Xfu p := by
 unfold Xjg Xfu
 rw [Yc6 p 16 10000000 (by omega) (by omega) hb, Xi3 p 16 10000000 (by omega) (by omega) (by omega) hb, Xad, Xad, Bool.not_true, Xaw, Xaw, Yul, Ywk Xu7 p hl, Xqk p hl, Xad, Xad, Xrp _ (Xv4 _ _), Xad, Xqk _ (Xu0 _), Xad, Xrp _ (Xv4 _ _), Xad]
 exact Xv7 _ 16 (by omega) (Xu0 _) (fun _ => rfl)
theorem Ylx {β : Type} {c : Prop} [Decidable c] {k k' : Option β} (h : c → k = k') : req c k = req c k' := by
 by_cases hc : c
 ·
  rw [Xai hc, Xai hc, h hc]
 ·
  unfold req; rw [if_neg hc, if_neg hc]
theorem Xs9 {β : Type} {c : Prop} [Decidable c] {k k' : Option β} (h0 : c) (h : k = k') : req c k = k' := by rw [Xai h0, h]
theorem Ypv {β : Type} {b : Bool} {x x' y y' : β} (h : b = true → x = x') (h2 : b = false → y = y') : sel b x y = sel b x' y' := by
 cases b
 ·
  exact h2 rfl
 ·
  exact h rfl
theorem Yw9 {α β : Type} {x x' : Option α} {f f' : α → Option β} (h : x = x') (h2 : ∀ a, x' = some a → f a = f' a) : bnd x f = bnd x' f' := by
 subst h
 cases x with
 | none => rfl
 | some a => exact h2 a rfl
theorem Ytn {V O : Type} {f : V → Option (Lp V O)} (I : V → Prop) (J : O → Prop) (h1 : ∀ v v', I v → f v = some (.go v') → I v') (h2 : ∀ v o, I v → f v = some (.done o) → J o) {v : V} {o : O} (h : loop f v = some o) (hv : I v) : J o := by
 obtain ⟨k, hk⟩ := Xhz.1 h
 clear h
 induction k generalizing v with
 | zero => cases hk
 | succ k ih =>
  rw [it] at hk
  cases e : f v with
  | none => rw [e] at hk; cases hk
  | some s =>
   rw [e] at hk
   cases s with
   | go y => exact ih (h1 v y hv e) hk
   | done o' => cases hk; exact h2 v o hv e
theorem Yc1 (l qp p : Int) (h0 : 0 ≤ qp ∧ qp ≤ 40) (hp : 0 ≤ p ∧ p ≤ 15) : Xh5 l qp p = Xe3 l qp p := by
 unfold Xh5 Xe3
 rw [Xan, Xak, Ykk qp p h0 hp]
theorem Yc0 (l qp : Int) (h0 : 0 ≤ qp ∧ qp ≤ 40) : Xh4 l qp = Xe2 l qp := by
 unfold Xh4 Xe2
 rw [Xan, Xak, Ymw qp h0]
def Xv2 (k : Int) (v7 : Int × List Int) : Option (Lp (Int × List Int) (List Int)) :=
 sel (decide (v7.1 < 4)) (
 bnd (it (Xl5 k v7) 10 (0, v7.2)) fun v18 =>
 some (.go (Xaa .i64 (v7.1 + 1), v18))) (
 some (.done v7.2))
theorem Yof {k : Int} {v : Int × List Int} {x : Lp (Int × List Int) (List Int)} (h : Xv2 k v = some x) : Xik k v = some x := by
 unfold Xv2 at h
 unfold Xik
 rcases Xp0 h with ⟨hb, h⟩ | ⟨hb, h⟩
 ·
  rw [hb, Xax]
  obtain ⟨a, h1, h2⟩ := Xba h
  rw [Xhz.2 ⟨10, h1⟩, Xad]
  exact h2
 ·
  rw [hb, Xaw]; exact h
def Xnt (k : Int) : List Int := (it (Xv2 k) 10 (0, [])).getD []
def Xm8 (k i : Int) : Int := (Xaa .i64 ((Xaa .i64 ((Xaa .i64 (8 * (Xaa .i64 ((Xaa .i64 ((Xaa .i64 (k.tdiv 2)) * 4)) + (Xaa .i64 (i.tdiv 4)))))) + (Xaa .i64 ((k.tmod 2) * 4)))) + (i.tmod 4)))
theorem Ypq : ∀ k : Fin 4, (it (Xv2 (k.val : Int)) 10 (0, [])).isSome = true ∧ (Xnt (k.val : Int)).length = 16 ∧ ∀ i : Fin 16, (Xnt (k.val : Int)).getD i.val 0 = Xm8 (k.val : Int) (i.val : Int) ∧ 0 ≤ Xm8 (k.val : Int) (i.val : Int) ∧ Xm8 (k.val : Int) (i.val : Int) < 64 := by decide +kernel
theorem Ye1 (k : Nat) (hk : k < 4) : Xlo k = some (Xnt k) ∧ (Xnt k).length = 16 ∧ ∀ i : Nat, i < 16 → (Xnt k).getD i 0 = Xm8 k i ∧ 0 ≤ Xm8 k i ∧ Xm8 k i < 64 := by
 obtain ⟨h1, h2, h3⟩ := Ypq ⟨k, hk⟩
 refine ⟨?_, h2, fun i hi => h3 ⟨i, hi⟩⟩
 obtain ⟨o, ho⟩ := Option.isSome_iff_exists.1 h1
 have hl := Ypn 10 (Yvj (fun v y => Yof (k := (k : Int))) 10 _ ho)
 unfold Xlo
 rw [hl, Xad]
 unfold Xnt; simp only at ho; rw [ho]; rfl
theorem Xp7 (p : List Int) (c : Xj9) (hc : Xjb c = true) (hp : Yry p = true) : Xgn p c = Xdd p c := by
 have hq := Ym7 hc
 obtain ⟨hl, hb⟩ := Yto hp
 unfold Xgn Xdd
 rw [Xez, Xdv, Xor p (by omega), hp, hc, Xi3 p 64 5000 (by omega) (by omega) (by omega) hb]
 simp only [Xad, Xax, Bool.not_true, Xaw]
 rw [Xqx 8 (Or.inr rfl) p (by omega)]
 refine Ypv (fun _ => rfl) fun _ => Ypv (fun _ => ?_) fun _ => ?_
 ·
  obtain ⟨w, ew, w1, w2⟩ := Xff 8 (Or.inr rfl) p 5000 (by omega) (by omega) hb
  rw [ew, Xad, Xad]
  have hloop : loop (Xei c (w, true)) (0, (w, true).1) = loop (Xbi c) (0, (w, true).1) := by
   have : Xei c (w, true) = Xbi c := by
    funext v
    unfold Xei Xbi
    simp only [Yc0 _ _ hq, w1, hl]
    rfl
   rw [this]
  rw [hloop]
  obtain ⟨l, el, l1, l2⟩ := Xr6 (f := Xbi c) 64 (fun x => -5000 ≤ x ∧ x ≤ 5000) (fun x => -5760000 ≤ x ∧ x ≤ 5760000) (by
   intro i l hi hll hx
   obtain ⟨d, ed, d1, d2⟩ := Xo7 (l.getD i 0) c.Qp hx hq
   unfold Xbi
   simp only [Int.toNat_natCast]
   rw [Xaj (by omega), Xai (by omega), Xai (by omega), ed, Xad, Xai (by omega), Xai (by omega), wk (e := (i : Int) + 1) (by omega) (by omega)]
   exact ⟨d, rfl, d1, d2⟩) (by intro s; unfold Xbi; rw [Xal (by simp)]) w (by omega) w2
  simp only [el, Xad]
  rw [Ycz l l1 (Yli l2 (by omega))]
 ·
  refine Ylx fun _ => Yw9 ?_ fun _ _ => rfl
  refine Xx9 (fun v => (∃ k : Nat, v.1 = (k : Int) ∧ k ≤ 4) ∧ v.2.length = 64) ?_ ?_ ⟨⟨0, rfl, by omega⟩, by simp⟩
  ·
   intro ⟨k0, s⟩ ⟨⟨k, ek, hk⟩, hs⟩
   simp only at ek hs
   subst ek
   unfold Xiq Xca
   simp only
   refine Ypv (fun hk4 => ?_) fun _ => rfl
   have hk4 : k < 4 := by have := of_decide_eq_true hk4; omega
   rw [wk (e := 16 * (k : Int)) (by omega) (by omega), wk (e := 16 * (k : Int) + 16) (by omega) (by omega)]
   refine Ylx fun _ => ?_
   rw [show (16 * (k : Int)).toNat = 16 * k by omega, show (16 * (k : Int) + 16).toNat - 16 * k = 16 by omega]
   have hcut : ((p.drop (16 * k)).take 16).length = 16 := by rw [List.length_take, List.length_drop]; omega
   obtain ⟨a, ea, a1, a2⟩ := Xff 4 (Or.inl rfl) ((p.drop (16 * k)).take 16) 5000 (by omega) (by omega) (Yqi (Yqh hb _) _)
   rw [Xqx 4 (Or.inl rfl) _ (by omega), ea, Xad, Xad]
   have hloop : loop (Xd5 c (a, true)) (0, (a, true).1) = loop (Xbf c) (0, (a, true).1) := by
    have : Xd5 c (a, true) = Xbf c := by
     funext v
     unfold Xd5 Xbf
     simp only [show ((a.length : Nat) : Int) = 16 by omega]
     refine Ypv (fun h16 => ?_) fun _ => rfl
     have := of_decide_eq_true h16
     refine Ylx fun h0 => Ylx fun _ => ?_
     rw [Yc1 _ _ _ hq (by omega)]
    rw [this]
   rw [hloop]
   obtain ⟨l, el, l1, l2⟩ := Xr6 (f := Xbf c) 16 (fun x => -5000 ≤ x ∧ x ≤ 5000) (fun x => -10000000 ≤ x ∧ x ≤ 10000000) (by
    intro i l hi hll hx
    obtain ⟨d, ed, d1, d2⟩ := Xpa (l.getD i 0) c.Qp i hx hq (by omega)
    unfold Xbf
    simp only [Int.toNat_natCast]
    rw [Xaj (by omega), Xai (by omega), Xai (by omega), ed, Xad, Xai (by omega), Xai (by omega), wk (e := (i : Int) + 1) (by omega) (by omega)]
    exact ⟨d, rfl, d1, d2⟩) (by intro s; unfold Xbf; rw [Xal (by simp)]) a (by omega) a2
   obtain ⟨b, eb, b1, b2⟩ := Xqh l l1 l2
   obtain ⟨q1, q2, q3⟩ := Ye1 k hk4
   simp only [el, Xad]
   rw [Yhi l l1 l2, eb, Xad, Xad, q1, Xad]
   refine Yw9 ?_ fun _ _ => rfl
   have : Xfs b (Xnt k) = Xbj ((k : Int), s) b := by
    funext v
    unfold Xfs Xbj
    simp only [show (((Xnt k).length : Nat) : Int) = 16 by omega]
    refine Ypv (fun h16 => ?_) fun _ => rfl
    have h16 := of_decide_eq_true h16
    by_cases h0 : 0 ≤ v.1
    ·
     obtain ⟨i, hi⟩ : ∃ i : Nat, v.1 = (i : Int) := ⟨v.1.toNat, by omega⟩
     obtain ⟨v1, v2⟩ := v
     simp only at hi h0 h16
     subst hi
     obtain ⟨r1, r2, r3⟩ := q3 i (by omega)
     have e1 : (Xaa .i64 ((Xaa .i64 ((Xaa .i64 (8 * (Xaa .i64 ((Xaa .i64 ((Xaa .i64 ((k : Int).tdiv 2)) * 4)) + (Xaa .i64 ((i : Int).tdiv 4)))))) + (Xaa .i64 (((k : Int).tmod 2) * 4)))) + ((i : Int).tmod 4))) = Xm8 k i := rfl
     simp only [Int.toNat_natCast, r1, e1]
     refine Xs9 (by omega) (Xs9 (by omega) (Xs9 (by omega) (Xs9 (by omega) ?_)))
     refine (Xs9 (by omega) (Xs9 (by omega) (Xs9 (by omega) (Xs9 (by omega) (Xs9 (by omega) (Xs9 (by omega) ?_)))))).symm
     rfl
    ·
     unfold req
     rw [if_neg (by omega), if_pos (by omega), if_pos (by omega), if_pos (by omega), if_pos (by omega), if_neg (by omega)]
   rw [this]
  ·
   intro ⟨k0, s⟩ v' ⟨⟨k, ek, hk⟩, hs⟩ he
   simp only at ek hs
   subst ek
   unfold Xca at he
   simp only at he
   rcases Xp0 he with ⟨hb4, he⟩ | ⟨_, he⟩
   ·
    have hk4 : k < 4 := by have := of_decide_eq_true hb4; omega
    obtain ⟨_, he⟩ := Xa5 he
    obtain ⟨a, _, he⟩ := Xba he
    obtain ⟨l, _, he⟩ := Xba he
    obtain ⟨b, _, he⟩ := Xba he
    obtain ⟨r, hr, he⟩ := Xba he
    rw [wk (e := (k : Int) + 1) (by omega) (by omega)] at he
    cases he
    refine ⟨⟨k + 1, rfl, by omega⟩, ?_⟩
    refine Ytn (f := Xbj ((k : Int), s) b) (fun v => v.2.length = 64) (fun o => o.length = 64) ?_ ?_ hr hs
    ·
     intro v v' hv he
     unfold Xbj at he
     rcases Xp0 he with ⟨_, he⟩ | ⟨_, he⟩
     ·
      obtain ⟨_, he⟩ := Xa5 he
      obtain ⟨_, he⟩ := Xa5 he
      obtain ⟨_, he⟩ := Xa5 he
      obtain ⟨_, he⟩ := Xa5 he
      obtain ⟨_, he⟩ := Xa5 he
      obtain ⟨_, he⟩ := Xa5 he
      obtain ⟨_, he⟩ := Xa5 he
      obtain ⟨_, he⟩ := Xa5 he
      cases he
      simp only [List.length_set]; exact hv
     ·
      cases he
    ·
     intro v o hv he
     unfold Xbj at he
     rcases Xp0 he with ⟨_, he⟩ | ⟨_, he⟩
     ·
      obtain ⟨_, he⟩ := Xa5 he
      obtain ⟨_, he⟩ := Xa5 he
      obtain ⟨_, he⟩ := Xa5 he
      obtain ⟨_, he⟩ := Xa5 he
      obtain ⟨_, he⟩ := Xa5 he
      obtain ⟨_, he⟩ := Xa5 he
      obtain ⟨_, he⟩ := Xa5 he
      obtain ⟨_, he⟩ := Xa5 he
      cases he
     ·
      cases he; exact hv
   ·
    cases he
theorem Yqu {S O : Type} {f g : Int × S → Option (Lp (Int × S) O)} (n : Nat) (I : Nat → S → Prop) (h : ∀ (i : Nat) (s : S), i ≤ n → I i s → f ((i : Int), s) = g ((i : Int), s)) (hI : ∀ (i : Nat) (s : S) (v' : Int × S), i ≤ n → I i s → g ((i : Int), s) = some (.go v') → v'.1 = ((i + 1 : Nat) : Int) ∧ i + 1 ≤ n ∧ I (i + 1) v'.2) {s0 : S} (h0 : I 0 s0) : loop f (0, s0) = loop g (0, s0) := by
 refine Xx9 (fun v => ∃ i : Nat, v.1 = (i : Int) ∧ i ≤ n ∧ I i v.2) ?_ ?_ ⟨0, rfl, by omega, h0⟩
 ·
  intro ⟨k, s⟩ ⟨i, e, hi, hs⟩
  simp only at e hs
  subst e
  exact h i s hi hs
 ·
  intro ⟨k, s⟩ v' ⟨i, e, hi, hs⟩ he
  simp only at e hs
  subst e
  obtain ⟨a, b, c⟩ := hI i s v' hi hs he
  exact ⟨i + 1, a, b, c⟩
theorem Ym9 {p : Pic} (ok : Xcc p = true) (x y : Int) : Xel p x y = Xfc p x y := by rw [Yel ok, Xjx ok]
theorem Xq9 {p : Pic} (ok : Xcc p = true) {x y : Int} (hx : x.tmod 8 = 0) (hy : y.tmod 8 = 0) (h : Xle p x y = true) : Xc1 p x y = some true := Yam ok x y hx hy h
theorem Ykg {p : Pic} (ok : Xcc p = true) {x y : Int} (hx : x.tmod 8 = 0) (hy : y.tmod 8 = 0) (h : Xle p x y = true) : Xlg p x y = Xgv p x y := by
 unfold Xlg Xgv
 rw [Xck, ok, Xq9 ok hx hy h, Xl9 ok hx hy h]
 have : Xjf p x y = Xea p x y := by
  funext v
  unfold Xjf Xea
  simp only [Ym9 ok]
 simp only [Xad, Xax, Bool.not_true, Xaw, this, Ym9 ok]
theorem Yo1 {e : Xkb} (h : Xzc e) : Xlh e = some true := by
 obtain ⟨h1, h2, h3, h4, h5, h6⟩ := h
 have side : ∀ l : List Int, (l.length = 0 ∨ l.length = 8) → (∀ x ∈ l, 0 ≤ x ∧ x ≤ 255) → bnd (sel (decide ((l.length : Int) > 0)) (bnd (Xd1 l 8 0 255) fun q10 => some (!q10)) (some false)) (fun v9 => some v9) = some false := by
  intro l hl hb
  rcases hl with e | e
  ·
   rw [Xal (by omega)]; rfl
  ·
   rw [Xaj (by omega), Xmk l 8 0 255 (by omega)]
   have : (l.all fun x => decide (0 ≤ x ∧ x ≤ 255)) = true := List.all_eq_true.2 fun x hx => decide_eq_true (hb x hx)
   rw [this, e]; rfl
 have go : ∀ (i : Nat) (l : List Int), i < 2 → ([e.Above, e.Left]).getD i Xk4 = l → (l.length = 0 ∨ l.length = 8) → (∀ x ∈ l, 0 ≤ x ∧ x ≤ 255) → Xe6 e (i : Int) = some (.go ((i + 1 : Nat) : Int)) := by
  intro i l hi hg hl hb
  unfold Xe6
  simp only [Int.toNat_natCast, hg]
  have hs := side l hl hb
  rw [Xaj (by simp only [List.length_cons, List.length_nil]; omega), Xai (by simp only [List.length_cons, List.length_nil]; omega), Xai (by simp only [List.length_cons, List.length_nil]; omega)]
  obtain ⟨a, ea, hs⟩ := Xba hs
  injection hs with hs
  subst hs
  rw [ea, Xad, Xaw, wk (by omega) (by omega)]
  rfl
 unfold Xlh
 have : loop (Xe6 e) 0 = some (.out ()) := by
  refine lgo (go 0 e.Above (by omega) rfl h1 h3) (lgo (go 1 e.Left (by omega) rfl h2 h4) (Xb1 ?_))
  unfold Xe6
  rw [Xal (by simp)]
 rw [this, Xad, Xan, Xad, decide_eq_true ⟨h5, h6⟩]
def Yrc (l : List Int) : Nat → Int
 | 0 => 0
 | n + 1 => Yrc l n + l.getD n 0
theorem Xsc {l : List Int} (h : ∀ x ∈ l, 0 ≤ x ∧ x ≤ 255) : ∀ n : Nat, n ≤ l.length → 0 ≤ Yrc l n ∧ Yrc l n ≤ 255 * n
 | 0, _ => by simp [Yrc]
 | n + 1, hn => by
  have a := Xsc h n (by omega)
  have b := h (l.getD n 0) (by rw [Xci l n (by omega)]; exact List.getElem_mem _)
  rw [Yrc]; omega
theorem Yml {f : Int × Int → Option (Lp (Int × Int) Int)} {l : List Int} (hl : l.length ≤ 64) (h : ∀ x ∈ l, 0 ≤ x ∧ x ≤ 255) (hf : ∀ v, f v = sel (decide (v.2 < (l.length : Int))) (req (0 ≤ v.2 ∧ v.2 < l.length) <| some (.go (Xaa .i64 (v.1 + (l.getD v.2.toNat 0)), Xaa .i64 (v.2 + 1)))) (some (.done v.1))) (a : Int) (ha : 0 ≤ a ∧ a ≤ 100000) : loop f (a, 0) = some (a + Yrc l l.length) := by
 obtain ⟨o, e, ho⟩ := Xnn (f := f) l.length (fun i s => s = a + Yrc l i) (by
  intro i s hi g
  have r := Xsc h i (by omega)
  have b := h (l.getD i 0) (by rw [Xci l i (by omega)]; exact List.getElem_mem _)
  rw [hf]
  simp only [Int.toNat_natCast]
  rw [Xaj (by omega), Xai (by omega), wk (e := s + l.getD i 0) (by omega) (by omega), wk (e := (i : Int) + 1) (by omega) (by omega)]
  exact ⟨_, rfl, by rw [Yrc]; omega⟩) (by intro s; rw [hf, Xal (by simp)]) a (by simp [Yrc])
 rw [e, ho]
theorem Xvw {l : List Int} (hl : l.length ≤ 64) (h : ∀ x ∈ l, 0 ≤ x ∧ x ≤ 255) : Xcb l = some (Yrc l l.length) := by
 unfold Xcb
 rw [Yml (f := Xds l) hl h (fun _ => rfl) 0 (by omega), Xad, Int.zero_add]
theorem Yts {e : Xkb} (h : Xzc e) : (sel (decide ((Xaa .i64 ((e.Above.length : Int) + (e.Left.length : Int))) > 0)) (bnd (Xcb e.Above) fun q5 => bnd (Xcb e.Left) fun q6 => req ((2 : Int) ≠ 0) <| req ((Xaa .i64 ((e.Above.length : Int) + (e.Left.length : Int))) ≠ 0) <|
  some (Xaa .i64 ((Xaa .i64 ((Xaa .i64 (q5 + q6)) + (Xaa .i64 ((Xaa .i64 ((e.Above.length : Int) + (e.Left.length : Int))).tdiv 2)))).tdiv (Xaa .i64 ((e.Above.length : Int) + (e.Left.length : Int)))))) (some 128)) = Xiu e := by
 obtain ⟨h1, h2, h3, h4, h5, h6⟩ := h
 unfold Xiu
 have r1 := Xsc h3 e.Above.length (Nat.le_refl _)
 have r2 := Xsc h4 e.Left.length (Nat.le_refl _)
 rw [wk (e := (e.Above.length : Int) + (e.Left.length : Int)) (by omega) (by omega)]
 by_cases hz : (e.Above.length : Int) + (e.Left.length : Int) = 0
 ·
  rw [Xal (by omega), Xbh (by simpa using hz)]
 ·
  rw [Xaj (by omega), Xa9 (by simpa using hz), Xvw (by omega) h3, Xad, Xvw (by omega) h4, Xad, Xai (by omega), Xai hz, Xai (by omega), Xbn (a := (e.Above.length : Int) + (e.Left.length : Int)) (by omega), wk (e := ((e.Above.length : Int) + (e.Left.length : Int)) / 2) (by omega) (by omega),
   Yml (f := Xgh e) (by omega) h3 (fun _ => rfl) _ (by omega), Xad, Yml (f := Xgi e) (by omega) h4 (fun _ => rfl) _ (by omega), Xad, Xai hz, wk (e := Yrc e.Above e.Above.length + Yrc e.Left e.Left.length) (by omega) (by omega), wk (e := Yrc e.Above e.Above.length + Yrc e.Left e.Left.length + ((e.Above.length : Int) + (e.Left.length : Int)) / 2) (by omega) (by omega)]
  congr 3; omega
theorem Yn9 (l : List Int) (hl : l.length = 0 ∨ l.length = 8) : ∃ g, Xkl l = some g ∧ g.length = 8 ∧ ∀ k : Nat, k < 8 → Xc7 l k = some (g.getD k 0) := by
 unfold Xkl
 rcases hl with e | e
 ·
  refine ⟨_, Xbh (by rw [e]; rfl), rfl, fun k hk => ?_⟩
  unfold Xc7
  rw [Xbh (by rw [e]; rfl)]
  congr 1
  obtain rfl | rfl | rfl | rfl | rfl | rfl | rfl | rfl : k = 0 ∨ k = 1 ∨ k = 2 ∨ k = 3 ∨ k = 4 ∨ k = 5 ∨ k = 6 ∨ k = 7 := by omega
  all_goals rfl
 ·
  refine ⟨l, Xa9 (by rw [e]; rfl), e, fun k hk => ?_⟩
  unfold Xc7
  rw [Xa9 (by rw [e]; rfl), Xai (by omega), Int.toNat_natCast]
theorem Ykt (n a b : Int) : Xeh n a b = Xeq n a b := by rw [Xje, Xfb]
def Xxb (m mid v : Int) (A B : List Int) (i : Nat) : Int := sel (m == 0) mid (sel (m == 1) (A.getD (i % 8) 0) (sel (m == 2) (B.getD (i / 8) 0) (Xc9 (Xaa .i64 (Xaa .i64 (B.getD (i / 8) 0 + A.getD (i % 8) 0) - v)) 0 255)))
theorem Yrx {f1 : Int × List Int → Option (Lp (Int × List Int) (List Int))} {f2 : Int × List Int → Int × List Int → Option (Lp (Int × List Int) (List Int))} (g : Nat → Int)
  (h1 : ∀ v, f1 v = sel (decide (v.1 < 8)) (bnd (loop (f2 v) (0, v.2)) fun w => some (.go (Xaa .i64 (v.1 + 1), w))) (some (.done v.2)))
  (h2 : ∀ (r c : Nat) (a s : List Int), r < 8 → c < 8 → s.length = 8 * r + c → f2 ((r : Int), a) ((c : Int), s) = some (.go (((c + 1 : Nat) : Int), s ++ [g (8 * r + c)])))
  (h3 : ∀ (r : Nat) (a s : List Int), f2 ((r : Int), a) (8, s) = some (.done s)) : loop f1 (0, []) = some ((List.range 64).map g) := by
 obtain ⟨o, e, ho⟩ := Xe5 (f := f1) 8 (fun r s => s = (List.range (8 * r)).map g) (by
  intro r s hr hs
  obtain ⟨q, eq, hq⟩ := Xhy (f := f2 ((r : Int), s)) 8 (fun c s' => s' = (List.range (8 * r + c)).map g) (by
   intro c s' hc hs'
   exact ⟨_, h2 r c s s' hr hc (by rw [hs']; simp), by rw [hs', show 8 * r + (c + 1) = (8 * r + c) + 1 by omega, List.range_succ, List.map_append]; rfl⟩) (fun z _ => h3 r s z) s hs
  rw [h1]
  refine ⟨q, ?_, by rw [hq, show 8 * (r + 1) = 8 * r + 8 by omega]⟩
  simp only
  rw [Xaj (by omega), eq, Xad, wk (by omega) (by omega)]
  rfl) (by intro s; rw [h1, Xal (by simp)]) [] rfl
 rw [e, ho]
end Go.Proofs.YtjgbfopmjpkkhaaGreat.A.Pure
