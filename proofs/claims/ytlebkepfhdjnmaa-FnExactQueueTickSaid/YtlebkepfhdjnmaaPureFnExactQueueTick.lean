/- The pure statement of the law FnExactQueueTick: over numbers, texts and lists alone, what the law computes is true. Conditions: the sizes of what a machine holds. -/
import Derived.Test.YtlebkepfhdjnmaaDFnExactQueueTick
namespace Go.Proofs.Ytlebkepfhdjnmaa.A.Pure
open Go Go.Proofs Go.Proofs.YtlebkepfhdjnmaaAL Go.RowKit
set_option linter.unusedVariables false
set_option linter.unusedSimpArgs false
set_option maxHeartbeats 1000000
theorem Xak {α β : Type} (a : α) (f : α → Option β) : bnd (some a) f = f a := rfl
theorem Xnd {β : Type} (x y : β) : sel true x y = x := rfl
theorem Xmr {β : Type} (x y : β) : sel false x y = y := rfl
theorem Xrs {β : Type} (b : Bool) (x y : β) : sel (!b) x y = sel b y x := by cases b <;> rfl
theorem Xjv (b x : Bool) : sel b (some x) (some false) = some (b && x) := by cases b <;> rfl
theorem Xq8 (b x : Bool) : sel b (some true) (some x) = some (b || x) := by cases b <;> rfl
theorem Xe3 (b x : Bool) : sel b (some x) (some true) = some (!b || x) := by cases b <;> rfl
theorem Xpw {β : Type} (p : Prop) [Decidable p] (x y : β) : sel (decide p) x y = if p then x else y := by
 by_cases h : p <;> simp [h, sel]
theorem Xa7 {β : Type} {b : Bool} {x y : β} (h : b = true) : sel b x y = x := by subst h; rfl
theorem Xax {β : Type} {b : Bool} {x y : β} (h : b = false) : sel b x y = y := by subst h; rfl
theorem Xhg {β : Type} {p : Prop} [Decidable p] {x y : β} (h : p) : sel (decide p) x y = x := by simp [h, sel]
theorem Xet {β : Type} {p : Prop} [Decidable p] {x y : β} (h : ¬ p) : sel (decide p) x y = y := by simp [h, sel]
theorem Xer {β : Type} {c : Prop} [Decidable c] {k : Option β} (h : c) : req c k = k := if_pos h
theorem wk {e : Int} (h1 : -9223372036854775808 ≤ e) (h2 : e ≤ 9223372036854775807) : Xaj .i64 e = e := by
 show wrap64 e = e
 unfold wrap64; omega
theorem rqA {β : Type} {c : Prop} [Decidable c] {k : Option β} (h : c := by omega) : req c k = k := Xer h
theorem syA {β : Type} {c : Prop} [Decidable c] {x y : β} (h : c := by omega) : sel (decide c) x y = x := Xhg h
theorem snA {β : Type} {c : Prop} [Decidable c] {x y : β} (h : ¬ c := by omega) : sel (decide c) x y = y := Xet h
theorem wkA {e : Int} (h1 : -9223372036854775808 ≤ e := by omega) (h2 : e ≤ 9223372036854775807 := by omega) : Xaj .i64 e = e := wk h1 h2
theorem Xe4 {a b : Int} (h : 0 ≤ a) : Int.tmod a b = a % b := Int.tmod_eq_emod_of_nonneg h
theorem Xqw {a b : Int} (h : 0 ≤ a) : Int.tdiv a b = a / b := Int.tdiv_eq_ediv_of_nonneg h
theorem Xo8 {P : Nat → Prop} (n : Nat) (h0 : P n) (hs : ∀ i, i < n → P (i + 1) → P i) : ∀ i, i ≤ n → P i := by
 intro i hi
 obtain ⟨k, rfl⟩ : ∃ k, n = i + k := ⟨n - i, by omega⟩
 clear hi
 induction k generalizing i with
 | zero => exact h0
 | succ k ih =>
  refine hs i (by omega) ?_
  exact ih (i + 1) (by rw [show i + 1 + k = i + (k + 1) by omega]; exact h0) (fun j hj => hs j (by omega))
theorem lgo {V O : Type} {f : V → Option (Lp V O)} {x y : V} {r : Option O} (h : f x = some (.go y)) (k : loop f y = r) : loop f x = r := by rw [Xeg h]; exact k
theorem Xji {V O : Type} {f : V → Option (Lp V O)} {x : V} {o : O} (h : f x = some (.done o)) : loop f x = some o := Xbo h
theorem Xqo {V O : Type} {f : V → Option (Lp V O)} (I : V → Prop) (m : V → Nat) (Q : V → O → Prop) (h : ∀ v, I v → (∃ o, f v = some (.done o) ∧ Q v o) ∨ ∃ v', f v = some (.go v') ∧ I v' ∧ m v' < m v ∧ ∀ o, Q v' o → Q v o) : ∀ v, I v → ∃ o, loop f v = some o ∧ Q v o := by
 intro v
 generalize hn : m v = n
 induction n using Nat.strongRecOn generalizing v with
 | _ n ih =>
  intro hv
  rcases h v hv with ⟨o, h1, h2⟩ | ⟨v', h1, h2, h3, h4⟩
  ·
   exact ⟨o, Xbo h1, h2⟩
  ·
   obtain ⟨o, h5, h6⟩ := ih (m v') (by omega) v' rfl h2
   exact ⟨o, by rw [Xeg h1]; exact h5, h4 o h6⟩
theorem Xrh {α : Type} (l : List α) (i : Nat) (h : i < l.length) (d : α) : l.getD i d = l[i] := by
 simp [List.getD_eq_getElem?_getD, List.getElem?_eq_getElem h]
theorem Xbj (a b c : Int) : Xbi a b c = some (decide (b ≤ a ∧ a ≤ c)) := by
 unfold Xbi
 by_cases h : b ≤ a <;> simp [bnd, sel, h]
theorem Xbu (a b c : Int) : Xaz a b c = some (decide (b ≤ a ∧ a ≤ c)) := by
 unfold Xaz
 by_cases h : b ≤ a <;> simp [bnd, sel, h]
theorem Xcc (a : Int) : Xas a = some (decide (0 ≤ a ∧ a ≤ 65535)) := by
 unfold Xas; rw [Xbj]; rfl
theorem Xpy {α : Type} (a : List α) (x y : α) (b : List α) : (a ++ x :: b).set a.length y = a ++ y :: b := by
 induction a with
 | nil => rfl
 | cons z a ih => simp only [List.cons_append, List.length_cons, List.set_cons_succ, ih]
theorem Xdr {α : Type} (a : List α) (x d : α) (b : List α) : (a ++ x :: b).getD a.length d = x := by
 induction a with
 | nil => rfl
 | cons z a ih => simp
theorem Xo9 {α β : Type} (l : List α) (g : α → β) (d : α) (e : β) {f : (Int × List β) → Option (Lp (Int × List β) (List β))}
  (h : ∀ (i : Nat) (o : List β), i < l.length → o.length = l.length → f ((i : Int), o) = some (.go (((i + 1 : Nat) : Int), o.set i (g (l.getD i d))))) (h0 : ∀ o, f ((l.length : Int), o) = some (.done o)) : loop f (0, List.replicate l.length e) = some (l.map g) := by
 have key : ∀ (r a : List α), l = a ++ r → loop f ((a.length : Int), a.map g ++ List.replicate r.length e) = some (l.map g) := by
  intro r
  induction r with
  | nil =>
   intro a ha
   rw [List.append_nil] at ha
   subst ha
   rw [Xbo (h0 _)]; simp
  | cons x r ih =>
   intro a ha
   have hlen : a.length < l.length := by rw [ha]; simp
   rw [Xeg (h a.length _ hlen (by rw [ha]; simp))]
   have e1 : l.getD a.length d = x := by rw [ha]; exact Xdr a x d r
   have e2 : (a.map g ++ List.replicate (x :: r).length e).set a.length (g x) = (a ++ [x]).map g ++ List.replicate r.length e := by
    have := Xpy (a.map g) e (g x) (List.replicate r.length e)
    rw [List.length_map] at this
    rw [List.length_cons, List.replicate_succ, this]
    simp
   rw [e1, e2]
   have := ih (a ++ [x]) (by rw [ha]; simp)
   rw [List.length_append, List.length_singleton] at this
   exact this
 exact key l [] rfl
theorem Xpx {f : Int → Option (Lp Int (Ou Unit Bool))} (n : Nat) (h : ∀ i : Nat, i < n → f i = some (.go ((i + 1 : Nat) : Int))) (h0 : f n = some (.done (.out ()))) : loop f 0 = some (.out ()) :=
 Xo8 (P := fun i => loop f (i : Int) = some (.out ())) n (Xbo h0) (fun i hi ih => by rw [Xeg (h i hi)]; exact ih) 0 (by omega)
theorem Xru {f : (Int × Int) → Option (Lp (Int × Int) (Ou Int Int))} (n : Nat) (B : Int) (h : ∀ (i : Nat) (m : Int), i < n → 0 ≤ m → m ≤ B → f (m, (i : Int)) = some (.done (.ret (-1))) ∨ ∃ m', f (m, (i : Int)) = some (.go (m', ((i + 1 : Nat) : Int))) ∧ 0 ≤ m' ∧ m' ≤ m)
  (h0 : ∀ m, f (m, (n : Int)) = some (.done (.out m))) (m : Int) (hm : 0 ≤ m) (hB : m ≤ B) : loop f (m, 0) = some (.ret (-1)) ∨ ∃ t, loop f (m, 0) = some (.out t) ∧ 0 ≤ t ∧ t ≤ m := by
 refine Xo8 (P := fun i => ∀ m : Int, 0 ≤ m → m ≤ B → loop f (m, (i : Int)) = some (.ret (-1)) ∨ ∃ t, loop f (m, (i : Int)) = some (.out t) ∧ 0 ≤ t ∧ t ≤ m) n ?_ ?_ 0 (by omega) m hm hB
 ·
  intro m h1 h2; exact .inr ⟨m, Xbo (h0 m), h1, Int.le_refl _⟩
 ·
  intro i hi ih m h1 h2
  rcases h i m hi h1 h2 with e | ⟨m', e, h3, h4⟩
  ·
   exact .inl (Xbo e)
  ·
   rw [Xeg e]
   rcases ih m' h3 (by omega) with e | ⟨t, e, h5, h6⟩
   ·
    exact .inl e
   ·
    exact .inr ⟨t, e, h5, by omega⟩
theorem Xgi (n : Int) : (strOfNums [n]).size = 1 := rfl
theorem Xh2 (k : Int) (h0 : 0 < k) (h1 : k ≤ 1000000000000) : ∃ s, Xbf k = some s := by
 unfold Xbf
 rw [snA]
 obtain ⟨o, h, h2⟩ := Xqo (f := Xcd) (fun v => 0 ≤ v.1 ∧ v.1 + v.2.size ≤ 1000000000000) (fun v => v.1.toNat) (fun _ o => o.size ≤ 1000000000000) (by
  intro ⟨n, s⟩ ⟨a, b⟩
  unfold Xcd
  simp only at a b ⊢
  by_cases h : n > 0
  ·
   rw [Xhg h, Xer (by decide), Xgi, rqA, Xer (by decide), Xqw a]
   refine .inr ⟨_, rfl, ?_, ?_, fun _ h => h⟩
   ·
    simp only [ByteArray.size_append, Xgi]
    rw [wkA]; omega
   ·
    simp only
    rw [wkA]; omega
  ·
   rw [Xet h]
   exact .inl ⟨_, rfl, by omega⟩) (k, ⟨#[]⟩) ⟨by simp only; omega, by simp only [show (⟨#[]⟩ : ByteArray).size = 0 from rfl]; omega⟩
 rw [h, Xak, Xer (by simp only [show (⟨#[109]⟩ : ByteArray).size = 1 from rfl]; omega)]
 exact ⟨_, rfl⟩
noncomputable def mT (k : Int) : ByteArray := (Xbf k).getD ⟨#[]⟩
theorem Xe7 (k : Int) (h0 : 0 < k) (h1 : k ≤ 1000000000000) : Xbf k = some (mT k) := by
 obtain ⟨s, h⟩ := Xh2 k h0 h1
 unfold mT; rw [h]; rfl
def Xm4 (n a b : Int) : Int := if b < a ∨ n < a then a else if n > b then b else n
theorem Xh4 (p : Packet) (m : Int) (h0 : 0 ≤ m) (h1 : m ≤ 1048576) (hs : p.Bytes.size ≤ maxLen) : Xcq p m = some (if m < p.Bytes.size then -1 else m - p.Bytes.size) := by
 have hm : maxLen = 9223372036854775807 := rfl
 unfold Xcq
 rw [wkA, Xpw]
 by_cases h : m < p.Bytes.size
 ·
  rw [if_pos h, if_pos (by omega)]
 ·
  rw [if_neg h, if_neg (by omega)]
theorem Xg7 (l : List Packet) (hl : l.length ≤ maxLen) (hs : ∀ x ∈ l, x.Bytes.size ≤ maxLen) (m : Int) (h0 : 0 ≤ m) (h1 : m ≤ 1048576) : ∃ t, Xb9 l m = some t ∧ t ≤ m ∧ (0 ≤ t → l.length ≤ m) ∧ -1 ≤ t := by
 have hm : maxLen = 9223372036854775807 := rfl
 unfold Xb9
 rw [wkA]
 by_cases h : m - l.length < 0
 ·
  rw [Xhg h]; exact ⟨_, rfl, by omega, by omega, by omega⟩
 ·
  rw [Xet h]
  rcases Xru (f := Xbm l) l.length 1048576 (by
   intro i m hi h0 h1
   unfold Xbm
   simp only
   rw [syA, rqA, Xh4 _ m h0 h1 (by rw [Int.toNat_natCast, Xrh l i hi]; exact hs _ (List.getElem_mem hi)), Xak]
   split
   ·
    left; rw [syA]
   ·
    right; rw [snA, wkA]; exact ⟨_, rfl, by omega, by omega⟩) (by
   intro m; unfold Xbm; simp only; rw [snA]) (m - l.length) (by omega) (by omega) with e | ⟨t, e, h2, h3⟩
  ·
   rw [e]; exact ⟨_, rfl, by omega, by omega, by omega⟩
  ·
   rw [e]; exact ⟨_, rfl, by omega, by omega, by omega⟩
theorem Xhb (l : List Packet) (hl : l.length ≤ 1048576) : Xca l = some l := by
 unfold Xca
 rw [rqA, Int.toNat_natCast]
 have := Xo9 l (fun p : Packet => p) Xac Xac (f := Xbn l) (by
  intro i o hi ho
  unfold Xbn
  simp only
  rw [syA, rqA, Xds, Xak, rqA, rqA, wkA]
  rfl) (by
  intro o; unfold Xbn; simp only; rw [snA])
 rw [this, Xak, List.map_id']
theorem Xf5 (p : Packet) : Xco p p = some true := by
 unfold Xco
 simp [sel]
theorem Xcf (l : List Packet) (hl : l.length ≤ 1048600) : Xa4 l l = some true := by
 unfold Xa4
 rw [Xax (by simp), Xpx l.length (f := Xbl l l) (by
  intro i hi
  unfold Xbl
  rw [syA, rqA, rqA, Xf5, Xak, Xrs, Xnd, wkA]
  rfl) (by unfold Xbl; rw [snA])]
 rfl
noncomputable def Xgd (k : Int) : List Packet → List Packet
 | [] => []
 | _ :: r => ⟨k, (k + 1) % 3 == 0, (k + 2) % 3 == 0, mT (k + 3)⟩ :: Xgd (k + 4) r
theorem Xmg : ∀ (l : List Packet) (k : Int), (Xgd k l).length = l.length
 | [], _ => rfl
 | _ :: r, k => by rw [Xgd, List.length_cons, List.length_cons, Xmg r]
theorem Xd1 (l : List Packet) (k : Int) (h0 : 0 < k) (h1 : k ≤ 100000000) (hl : l.length ≤ 1048600) : Xbd l k = some (k + 4 * l.length, Xgd k l) := by
 unfold Xbd
 have key : ∀ (r a : List Packet) (j : Int), 0 < j → j + 4 * r.length ≤ 200000000 → a.length + r.length ≤ 1048600 → loop Xa6 (j, (a.length : Int), a ++ r) = some (j + 4 * r.length, a ++ Xgd j r) := by
  intro r
  induction r with
  | nil =>
   intro a j hj1 hj2 hl
   refine Xji ?_
   unfold Xa6
   simp only [List.append_nil]
   rw [snA]
   simp [Xgd]
  | cons p r ih =>
   intro a j hj1 hj2 hl
   simp only [List.length_cons] at hj2 hl ⊢
   have hcl : ∀ x : Packet, (a ++ x :: r).length = a.length + (r.length + 1) := fun x => by simp
   refine lgo (y := (j + 4, ((a ++ [(⟨j, (j + 1) % 3 == 0, (j + 2) % 3 == 0, mT (j + 3)⟩ : Packet)]).length : Int), (a ++ [(⟨j, (j + 1) % 3 == 0, (j + 2) % 3 == 0, mT (j + 3)⟩ : Packet)]) ++ r)) ?_ ?_
   ·
    unfold Xa6
    simp only [Int.toNat_natCast, Xak, Xpy, Xdr, hcl]
    rw [syA, rqA, rqA, Xer (by decide), rqA, rqA, Xer (by decide), rqA, rqA, wkA (e := j + 1), wkA (e := j + 1 + 1), wkA (e := j + 1 + 1 + 1), wkA (e := j + 1 + 1 + 1 + 1), Xe7 _ (by omega) (by omega), Xak, rqA, rqA, wkA (e := (a.length : Int) + 1), Xe4 (by omega), Xe4 (by omega)]
    rw [show j + 1 + 1 + 1 + 1 = j + 4 by omega, show j + 1 + 1 + 1 = j + 3 by omega, show j + 1 + 1 = j + 2 by omega]
    simp
   ·
    rw [ih _ (j + 4) (by omega) (by omega) (by simp; omega)]
    simp only [Xgd, List.append_assoc, List.singleton_append]
    congr 2
    omega
 have := key l [] k h0 (by omega) (by simp; omega)
 simp only [List.length_nil, List.nil_append] at this
 rw [show ((k, 0, l) : Int × Int × List Packet) = (k, ((0 : Nat) : Int), l) from rfl, this]
 rfl
theorem Xch (l : List Packet) (k : Int) (h0 : 0 < k) (h1 : k ≤ 100000000) (hl : l.length ≤ 1048600) : Xa0 (Xgd k l) k = some (k + 4 * l.length) := by
 unfold Xa0
 have key : ∀ (r a : List Packet) (j : Int), 0 < j → j + 4 * r.length ≤ 200000000 → a.length + r.length ≤ 1048600 → loop (Xa5 (a ++ Xgd j r)) (j, (a.length : Int)) = some (.out (j + 4 * r.length)) := by
  intro r
  induction r with
  | nil =>
   intro a j hj1 hj2 hl
   refine Xji ?_
   unfold Xa5
   simp only [Xgd, List.append_nil]
   rw [snA]
   simp
  | cons p r ih =>
   intro a j hj1 hj2 hl
   simp only [List.length_cons] at hj2 hl ⊢
   have hcl : ∀ (x : Packet) (r : List Packet), (a ++ x :: r).length = a.length + (r.length + 1) := fun x r => by simp
   refine lgo (y := (j + 4, ((a ++ [(⟨j, (j + 1) % 3 == 0, (j + 2) % 3 == 0, mT (j + 3)⟩ : Packet)]).length : Int))) ?_ ?_
   ·
    unfold Xa5
    simp only [Xgd, Int.toNat_natCast, Xdr, hcl, Xmg]
    rw [syA, rqA, Xax (by simp), rqA, Xer (by decide), wkA (e := j + 1), Xe4 (by omega), Xax (by simp), rqA, Xer (by decide), wkA (e := j + 1 + 1), Xe4 (by omega), Xax (by rw [show j + 1 + 1 = j + 2 by omega]; simp), rqA,
     wkA (e := j + 1 + 1 + 1), Xe7 _ (by omega) (by omega), Xak, Xax (by rw [show j + 1 + 1 + 1 = j + 3 by omega]; simp), wkA (e := j + 1 + 1 + 1 + 1), wkA (e := (a.length : Int) + 1)]
    simp; omega
   ·
    have := ih (a ++ [(⟨j, (j + 1) % 3 == 0, (j + 2) % 3 == 0, mT (j + 3)⟩ : Packet)]) (j + 4) (by omega) (by omega) (by simp; omega)
    simp only [Xgd]
    rw [List.append_assoc, List.singleton_append] at this
    rw [this]
    congr 2
    omega
 have := key l [] k h0 (by omega) (by simp; omega)
 simp only [List.length_nil, List.nil_append] at this
 rw [show ((k, 0) : Int × Int) = (k, ((0 : Nat) : Int)) from rfl, this]
 rfl
def Xbt (a b : Int) : Int := if 0 ≤ a ∧ a ≤ 65535 ∧ 0 ≤ b ∧ b ≤ 65535 then (a + b) % 65536 else 0
theorem Xdz (a b : Int) : Xb1 a b = some (Xbt a b) := by
 unfold Xb1 Xbt
 simp only [Xcc, Xak, Xe3]
 by_cases h : 0 ≤ a ∧ a ≤ 65535 ∧ 0 ≤ b ∧ b ≤ 65535
 ·
  rw [if_pos h, Xax (by simp; omega), Xer (by decide), wkA, Xe4 (by omega)]
 ·
  rw [if_neg h, Xa7 (by simp; omega)]
theorem Xfe (a b : Int) : Xck a b = some (Xbt a b) := by
 unfold Xck Xbt
 simp only [Xbu, Xak, Xe3]
 by_cases h : 0 ≤ a ∧ a ≤ 65535 ∧ 0 ≤ b ∧ b ≤ 65535
 ·
  rw [if_pos h, Xax (by simp; omega), Xer (by decide), wkA, Xe4 (by omega)]
 ·
  rw [if_neg h, Xa7 (by simp; omega)]
def Xb6 (a b : Int) : Int := if 0 ≤ a ∧ a ≤ 65535 ∧ 0 ≤ b ∧ b ≤ 65535 then (if b - a > 32767 then b - a - 65536 else if b - a < -32768 then b - a + 65536 else b - a) else 0
theorem Xkg (a b : Int) : Xdx a b = some (Xb6 a b) := by
 unfold Xdx Xb6
 simp only [Xcc, Xak, Xe3]
 by_cases h : 0 ≤ a ∧ a ≤ 65535 ∧ 0 ≤ b ∧ b ≤ 65535
 ·
  rw [if_pos h, Xax (by simp; omega), Xer (by decide), wkA (e := b - a), wkA (e := b - a + 65536), Xe4 (by omega), wkA, Xpw]
  repeat' split
  all_goals (simp only [Xak]; congr 1; omega)
 ·
  rw [if_neg h, Xa7 (by simp; omega)]
theorem Xfo (a b : Int) : Xc2 a b = some (Xb6 a b) := by
 unfold Xc2 Xb6
 simp only [Xbu, Xak, Xe3]
 by_cases h : 0 ≤ a ∧ a ≤ 65535 ∧ 0 ≤ b ∧ b ≤ 65535
 ·
  rw [if_pos h, Xax (by simp; omega), wkA (e := b - a), wkA]
  simp only [Xpw]
  by_cases h1 : b - a > 32767
  ·
   rw [if_pos h1, if_pos h1, Xak, if_neg (by omega), Xak]
  ·
   rw [if_neg h1, if_neg h1, Xak]
   by_cases h2 : b - a < -32768
   ·
    rw [if_pos h2, if_pos h2, Xak, wkA]
   ·
    rw [if_neg h2, if_neg h2, Xak]
 ·
  rw [if_neg h, Xa7 (by simp; omega)]
def Xbg (p : Packet) : Bool := decide (0 ≤ p.Seq ∧ p.Seq ≤ 65535 ∧ 1 ≤ p.Bytes.size ∧ p.Bytes.size ≤ 400)
theorem Xmi (p : Packet) : Xbg p = true ↔ 0 ≤ p.Seq ∧ p.Seq ≤ 65535 ∧ 1 ≤ p.Bytes.size ∧ p.Bytes.size ≤ 400 := by simp [Xbg]
theorem Xhu (p : Packet) : Xcm p = some (Xbg p) := by
 unfold Xcm Xbg
 simp only [Xcc, Xbj, Xak, Xjv]
 congr 1
 rw [Bool.eq_iff_iff]; simp; omega
theorem Xih (p : Packet) : Xcu p = some (Xbg p) := by
 unfold Xcu Xbg
 simp only [Xbu, Xak, Xjv]
 congr 1
 rw [Bool.eq_iff_iff]; simp; omega
def cnt (n : Int) : Bool := decide (0 ≤ n ∧ n ≤ 1000000000)
theorem Xim (n : Int) : Xa3 n = some (cnt n) := by
 unfold Xa3 cnt
 rw [Xbu, Xak]
def Xse (n : Int) : Int := if n + 1 < 1000000000 then n + 1 else 1000000000
theorem Xjd (n : Int) (h : cnt n = true) : Xc7 n = some (Xse n) := by
 have h' : 0 ≤ n ∧ n ≤ 1000000000 := by simpa [cnt] using h
 unfold Xc7 Xse
 rw [wkA]
 congr 1
 split <;> split <;> omega
theorem Xjz (n a b : Int) : Xda n a b = some (Xm4 n a b) := by
 unfold Xda Xm4
 rw [Xq8, Xak]
 by_cases h : b < a ∨ n < a
 ·
  rw [if_pos h, Xa7 (by simpa using h)]
 ·
  rw [if_neg h, Xax (by simp; omega), Xpw]; split <;> rfl
theorem Xj7 (n : Int) (h : cnt n = true) : Xdd n = some (Xse n) := by
 have h' : 0 ≤ n ∧ n ≤ 1000000000 := by simpa [cnt] using h
 unfold Xdd Xse
 rw [wkA, Xjz, Xak]
 unfold Xm4
 congr 1
 repeat' split
 all_goals omega
def Xe5 (next : Int) : Int → List Packet → Bool
 | _, [] => true
 | Xd3, p :: r => Xbg p && decide (Xd3 < Xb6 next p.Seq ∧ Xb6 next p.Seq < 40) && Xe5 next (Xb6 next p.Seq) r
def Xre (q : Queue) : Bool := cnt q.Late && cnt q.Far && cnt q.Twice && cnt q.Over && cnt q.Lost
def Xcy (q : Queue) : Bool :=
 if q.Begun = true then decide (0 ≤ q.Next ∧ q.Next ≤ 65535 ∧ 0 ≤ q.Age ∧ q.Age ≤ 20 ∧ q.Held.length ≤ 24) && (Xe5 q.Next (-1) q.Held && Xre q)
 else decide (q.Next = 0 ∧ q.Age = 0 ∧ q.Held.length = 0 ∧ q.Late = 0 ∧ q.Far = 0 ∧ q.Twice = 0 ∧ q.Over = 0 ∧ q.Lost = 0)
theorem Xj1 (q : Queue) : Xdb q = some (Xcy q) := by
 unfold Xdb Xcy
 simp only [Xbu, Xim, Xak, Xjv, Xe3]
 by_cases hb : q.Begun = true
 ·
  rw [Xax (by simp [hb]), if_pos hb]
  by_cases h1 : 0 ≤ q.Next ∧ q.Next ≤ 65535 ∧ 0 ≤ q.Age ∧ q.Age ≤ 20 ∧ q.Held.length ≤ 24
  ·
   rw [Xax (by simp; omega), decide_eq_true h1, Bool.true_and]
   have key : ∀ (r a : List Packet) (Xd3 : Int), q.Held = a ++ r → loop (Xbp q) (Xd3, (a.length : Int)) = some (if Xe5 q.Next Xd3 r = true then .out () else .ret false) := by
    intro r
    induction r with
    | nil =>
     intro a Xd3 ha
     rw [List.append_nil] at ha
     refine Xji ?_
     unfold Xbp
     simp only
     rw [Xet (by rw [ha]; omega)]; rfl
    | cons p r ih =>
     intro a Xd3 ha
     have hlen : a.length < q.Held.length := by rw [ha]; simp
     have hp : q.Held.getD a.length Xac = p := by rw [ha]; exact Xdr a p _ r
     have hstep : Xbp q (Xd3, (a.length : Int)) = sel (!(Xbg p && decide (Xd3 < Xb6 q.Next p.Seq ∧ Xb6 q.Next p.Seq < 40))) (some (.done (.ret false))) (some (.go (Xb6 q.Next p.Seq, ((a.length + 1 : Nat) : Int)))) := by
      unfold Xbp
      simp only [Int.toNat_natCast, hp]
      rw [syA, rqA, Xfo, Xak, rqA, Xih, Xak, wkA, Xq8, Xe3, Xak]
      congr 1
      cases Xbg p <;> rw [Bool.eq_iff_iff] <;> simp <;> omega
     by_cases h : Xbg p = true ∧ Xd3 < Xb6 q.Next p.Seq ∧ Xb6 q.Next p.Seq < 40
     ·
      rw [lgo (by rw [hstep, Xax (by simp [h])]) rfl]
      have := ih (a ++ [p]) (Xb6 q.Next p.Seq) (by rw [ha]; simp)
      rw [List.length_append, List.length_singleton] at this
      rw [this]
      simp [Xe5, h]
     ·
      rw [Xji (by rw [hstep, Xa7 (by simp only [Bool.not_eq_true', Bool.and_eq_false_iff, decide_eq_false_iff_not]; by_cases hp : Xbg p = true; exact .inr (fun e => h ⟨hp, e⟩); exact .inl (by simpa using hp))])]
      rw [if_neg]
      simp only [Xe5, Bool.and_eq_true, decide_eq_true_eq]
      exact fun e => h ⟨e.1.1, e.1.2⟩
   have := key q.Held [] (-1) rfl
   simp only [List.length_nil] at this
   rw [show (((-1 : Int), (0 : Int))) = ((-1), ((0 : Nat) : Int)) from rfl, this, Xak]
   by_cases h2 : Xe5 q.Next (-1) q.Held = true
   ·
    rw [if_pos h2, h2]; simp only [Xre, Bool.true_and, Bool.and_assoc]
   ·
    rw [if_neg h2]; simp only [Bool.not_eq_true] at h2; rw [h2]; rfl
  ·
   rw [Xa7 (by simp; omega), decide_eq_false h1, Bool.false_and]
 ·
  rw [Xa7 (by simpa using hb), if_neg hb]
  congr 1
  rw [Bool.eq_iff_iff]; simp
theorem Xi9 (q : Queue) : Xc6 q = some (Xcy q) := by
 unfold Xc6 Xcy
 simp only [Xcc, Xbj, Xak, Xjv, Xe3]
 by_cases hb : q.Begun = true
 ·
  rw [Xax (by simp [hb]), if_pos hb]
  by_cases h1 : 0 ≤ q.Next ∧ q.Next ≤ 65535 ∧ 0 ≤ q.Age ∧ q.Age ≤ 20 ∧ q.Held.length ≤ 24
  ·
   rw [Xax (by simp; omega), decide_eq_true h1, Bool.true_and]
   have key : ∀ (r a : List Packet) (Xd3 : Int), q.Held = a ++ r → -1 ≤ Xd3 → Xd3 < 40 → loop (Xbk q) (Xd3, (a.length : Int)) = some (if Xe5 q.Next Xd3 r = true then .out () else .ret false) := by
    intro r
    induction r with
    | nil =>
     intro a Xd3 ha _ _
     rw [List.append_nil] at ha
     refine Xji ?_
     unfold Xbk
     simp only
     rw [Xet (by rw [ha]; omega)]; rfl
    | cons p r ih =>
     intro a Xd3 ha hl1 hl2
     have hlen : a.length < q.Held.length := by rw [ha]; simp
     have hp : q.Held.getD a.length Xac = p := by rw [ha]; exact Xdr a p _ r
     have hstep : Xbk q (Xd3, (a.length : Int)) = sel (!(Xbg p && decide (Xd3 < Xb6 q.Next p.Seq ∧ Xb6 q.Next p.Seq < 40))) (some (.done (.ret false))) (some (.go (Xb6 q.Next p.Seq, ((a.length + 1 : Nat) : Int)))) := by
      unfold Xbk
      simp only [Int.toNat_natCast, hp]
      rw [syA, rqA, Xkg, Xak, Xhu, Xak, wkA, Xbj, Xak, wkA, Xe3, Xak]
      congr 1
      cases Xbg p <;> rw [Bool.eq_iff_iff] <;> simp <;> omega
     by_cases h : Xbg p = true ∧ Xd3 < Xb6 q.Next p.Seq ∧ Xb6 q.Next p.Seq < 40
     ·
      rw [lgo (by rw [hstep, Xax (by simp [h])]) rfl]
      have := ih (a ++ [p]) (Xb6 q.Next p.Seq) (by rw [ha]; simp) (by omega) (by omega)
      rw [List.length_append, List.length_singleton] at this
      rw [this]
      simp [Xe5, h]
     ·
      rw [Xji (by rw [hstep, Xa7 (by simp only [Bool.not_eq_true', Bool.and_eq_false_iff, decide_eq_false_iff_not]; by_cases hp : Xbg p = true; exact .inr (fun e => h ⟨hp, e⟩); exact .inl (by simpa using hp))])]
      rw [if_neg]
      simp only [Xe5, Bool.and_eq_true, decide_eq_true_eq]
      exact fun e => h ⟨e.1.1, e.1.2⟩
   have := key q.Held [] (-1) rfl (by omega) (by omega)
   simp only [List.length_nil] at this
   rw [show (((-1 : Int), (0 : Int))) = ((-1), ((0 : Nat) : Int)) from rfl, this, Xak]
   by_cases h2 : Xe5 q.Next (-1) q.Held = true
   ·
    rw [if_pos h2, h2, Bool.true_and]
    have st : ∀ i : Nat, i < 5 → Xav q (i : Int) = sel (cnt (([q.Late, q.Far, q.Twice, q.Over, q.Lost]).getD i 0)) (some (.go ((i + 1 : Nat) : Int))) (some (.done (.ret false))) := by
     intro i hi
     unfold Xav
     simp only [List.length_cons, List.length_nil]
     rw [syA, rqA, rqA, Xbj, Xak, Xrs, wkA]
     rfl
    have e5 : loop (Xav q) ((5 : Nat) : Int) = some (.out ()) := Xji (by unfold Xav; rw [Xet (by simp)])
    have go : ∀ i : Nat, i < 5 → loop (Xav q) (i : Int) = sel (cnt (([q.Late, q.Far, q.Twice, q.Over, q.Lost]).getD i 0)) (loop (Xav q) ((i + 1 : Nat) : Int)) (some (.ret false)) := by
     intro i hi
     have := st i hi
     cases h : cnt (([q.Late, q.Far, q.Twice, q.Over, q.Lost]).getD i 0) with
     | true => rw [h] at this; exact Xeg this
     | false => rw [h] at this; exact Xbo this
    have := go 0 (by omega)
    rw [show (0 : Int) = ((0 : Nat) : Int) from rfl, this, go 1 (by omega), go 2 (by omega), go 3 (by omega), go 4 (by omega), e5]
    simp only [Xre, List.getD_cons_zero, List.getD_cons_succ]
    cases cnt q.Late <;> cases cnt q.Far <;> cases cnt q.Twice <;> cases cnt q.Over <;> cases cnt q.Lost <;> rfl
   ·
    rw [if_neg h2]; simp only [Bool.not_eq_true] at h2; rw [h2]; rfl
  ·
   rw [Xa7 (by simp; omega), decide_eq_false h1, Bool.false_and]
 ·
  rw [Xa7 (by simpa using hb), if_neg hb]
  congr 1
  rw [Bool.eq_iff_iff]; simp
theorem Xkr : ∀ {l : List Packet} {n Xd3 : Int}, Xe5 n Xd3 l = true → ∀ p ∈ l, Xbg p = true
 | [], _, _, _, p, hp => by simp at hp
 | q :: r, n, Xd3, h, p, hp => by
  rw [Xe5, Bool.and_eq_true, Bool.and_eq_true] at h
  rcases List.mem_cons.1 hp with rfl | hp
  ·
   exact h.1.1
  ·
   exact Xkr h.2 p hp
theorem Xeb {q : Queue} (h : Xcy q = true) : 0 ≤ q.Next ∧ q.Next ≤ 65535 ∧ q.Held.length ≤ 24 ∧ 0 ≤ q.Age ∧ q.Age ≤ 20 ∧ Xre q = true ∧ ∀ p ∈ q.Held, Xbg p = true := by
 unfold Xcy at h
 by_cases hb : q.Begun = true
 ·
  rw [if_pos hb, Bool.and_eq_true, Bool.and_eq_true, decide_eq_true_eq] at h
  exact ⟨h.1.1, h.1.2.1, h.1.2.2.2.2, h.1.2.2.1, h.1.2.2.2.1, h.2.2, Xkr h.2.1⟩
 ·
  rw [if_neg hb, decide_eq_true_eq] at h
  obtain ⟨h1, h2, h3, h4, h5, h6, h7, h8⟩ := h
  have : q.Held = [] := List.length_eq_zero_iff.1 h3
  refine ⟨by omega, by omega, by omega, by omega, by omega, ?_, by rw [this]; simp⟩
  unfold Xre cnt; rw [h4, h5, h6, h7, h8]; rfl
theorem Xlz {q : Queue} (h : Xre q = true) : cnt q.Late = true ∧ cnt q.Far = true ∧ cnt q.Twice = true ∧ cnt q.Over = true ∧ cnt q.Lost = true := by
 unfold Xre at h
 simp only [Bool.and_eq_true] at h
 exact ⟨h.1.1.1.1, h.1.1.1.2, h.1.1.2, h.1.2, h.2⟩
theorem Xgy (q : Queue) (h : q.Held.length ≤ 1048576) : Xb8 q = some q := by
 have hm : maxLen = 9223372036854775807 := rfl
 unfold Xb8
 rw [Xer (by simp only [List.length_nil]; omega), List.nil_append]
theorem Xj5 (q : Queue) (h : q.Held.length ≤ 1048576) : Xdc q = some q := by
 have hm : maxLen = 9223372036854775807 := rfl
 unfold Xdc
 rw [Xer (by simp only [List.length_nil]; omega), List.nil_append]
def Xb3 (next : Int) : Nat → List Packet → Nat
 | _, [] => 0
 | i, p :: r => if p.Seq = Xbt next i then (if p.Last = true then i + 1 else Xb3 next (i + 1) r) else 0
theorem Xmm (next : Int) : ∀ (r : List Packet) (i : Nat), Xb3 next i r ≤ i + r.length
 | [], i => by simp [Xb3]
 | p :: r, i => by
  rw [Xb3]
  have := Xmm next r (i + 1)
  split
  ·
   split
   ·
    simp
   ·
    simp; omega
  ·
   omega
theorem Xrg {n s : Int} {i : Nat} (h1 : 0 ≤ n ∧ n ≤ 65535) (h2 : 0 ≤ s ∧ s ≤ 65535) (h3 : i ≤ 24) : Xb6 n s = i ↔ s = Xbt n i := by
 unfold Xb6 Xbt
 rw [if_pos (show 0 ≤ n ∧ n ≤ 65535 ∧ 0 ≤ s ∧ s ≤ 65535 by omega), if_pos (show 0 ≤ n ∧ n ≤ 65535 ∧ (0 : Int) ≤ (i : Int) ∧ (i : Int) ≤ 65535 by omega)]
 constructor
 ·
  intro h
  split at h
  ·
   omega
  ·
   split at h <;> omega
 ·
  intro h
  split
  ·
   omega
  ·
   split <;> omega
theorem Xms {n : Int} {i : Nat} (h1 : 0 ≤ n ∧ n ≤ 65535) (h3 : i ≤ 24) : Xbt (Xbt n i) 1 = Xbt n ((i + 1 : Nat) : Int) := by
 unfold Xbt
 rw [if_pos (show 0 ≤ n ∧ n ≤ 65535 ∧ (0 : Int) ≤ (i : Int) ∧ (i : Int) ≤ 65535 by omega), if_pos (by omega), if_pos (by omega)]
 omega
theorem Xiq (q : Queue) (h : Xcy q = true) : Xcv q = some (Xb3 q.Next 0 q.Held : Int) := by
 have hq := Xeb h
 unfold Xcv
 have key : ∀ (r a : List Packet), q.Held = a ++ r → loop (Xa1 q) (a.length : Int) = some (.ret (Xb3 q.Next a.length r : Int)) ∨ loop (Xa1 q) (a.length : Int) = some (.out ()) ∧ Xb3 q.Next a.length r = 0 := by
  intro r
  induction r with
  | nil =>
   intro a ha
   rw [List.append_nil] at ha
   exact .inr ⟨Xji (by unfold Xa1; rw [Xet (by rw [ha]; omega)]), rfl⟩
  | cons p r ih =>
   intro a ha
   have hlen : a.length < q.Held.length := by rw [ha]; simp
   have hp : q.Held.getD a.length Xac = p := by rw [ha]; exact Xdr a p _ r
   have hpk := (Xmi p).1 (hq.2.2.2.2.2.2 p (by rw [ha]; simp))
   have hstep : Xa1 q (a.length : Int) = sel (Xb6 q.Next p.Seq != (a.length : Int)) (some (.done (.ret 0))) (sel p.Last (some (.done (.ret ((a.length + 1 : Nat) : Int)))) (some (.go ((a.length + 1 : Nat) : Int)))) := by
    unfold Xa1
    simp only [Int.toNat_natCast, hp]
    rw [syA, rqA, Xfo, Xak, rqA, wkA]
    rfl
   have hg := Xrg (n := q.Next) (s := p.Seq) (i := a.length) (by omega) (by omega) (by omega)
   by_cases e : p.Seq = Xbt q.Next a.length
   ·
    rw [Xax (by simp; exact hg.2 e)] at hstep
    by_cases e2 : p.Last = true
    ·
     rw [Xa7 e2] at hstep
     left; rw [Xbo hstep, Xb3, if_pos e, if_pos e2]
    ·
     rw [Xax (by simpa using e2)] at hstep
     have := ih (a ++ [p]) (by rw [ha]; simp)
     rw [List.length_append, List.length_singleton] at this
     rw [Xeg hstep, Xb3, if_pos e, if_neg e2]; exact this
   ·
    rw [Xa7 (by simp; exact fun x => e (hg.1 x))] at hstep
    left; rw [Xbo hstep, Xb3, if_neg e]; rfl
 rcases key q.Held [] rfl with e | ⟨e, e2⟩
 ·
  simp only [List.length_nil] at e
  rw [show (0 : Int) = ((0 : Nat) : Int) from rfl, e]; rfl
 ·
  simp only [List.length_nil] at e e2
  rw [show (0 : Int) = ((0 : Nat) : Int) from rfl, e, e2]; rfl
def Xdj (next : Int) : List Packet → Nat
 | [] => 0
 | p :: r => if p.First = true ∧ p.Seq ≠ next then 0 else Xdj next r + 1
theorem Xn7 (next : Int) : ∀ r : List Packet, Xdj next r ≤ r.length
 | [] => by simp [Xdj]
 | p :: r => by
  rw [Xdj]; have := Xn7 next r
  split
  ·
   omega
  ·
   simp; omega
def Xpo (q : Queue) : Int := if Xdj q.Next q.Held < q.Held.length then (q.Held.getD (Xdj q.Next q.Held) Xac).Seq else Xbt (q.Held.getD (q.Held.length - 1) Xac).Seq 1
def Xml (q : Queue) (w : Int) : Queue × List Packet × Int :=
 if Xcy q = true ∧ 0 ≤ w ∧ w ≤ 20 then
  (if 0 < Xb3 q.Next 0 q.Held then (⟨q.Begun, Xbt q.Next (Xb3 q.Next 0 q.Held), 0, q.Held.drop (Xb3 q.Next 0 q.Held), q.Late, q.Far, q.Twice, q.Over, q.Lost⟩, q.Held.take (Xb3 q.Next 0 q.Held), 1)
  else if q.Held.length = 0 then (⟨q.Begun, q.Next, 0, q.Held, q.Late, q.Far, q.Twice, q.Over, q.Lost⟩, [], 0)
  else if q.Age < w then (⟨q.Begun, q.Next, q.Age + 1, q.Held, q.Late, q.Far, q.Twice, q.Over, q.Lost⟩, [], 0)
  else (⟨q.Begun, Xpo q, 0, q.Held.drop (Xdj q.Next q.Held), q.Late, q.Far, q.Twice, q.Over, Xse q.Lost⟩, [], 2))
 else (q, [], 0)
theorem Xp0 (q : Queue) (hl : q.Held.length ≤ 24) : loop (Xar q) 0 = some (Xdj q.Next q.Held : Int) := by
 have key : ∀ (r a : List Packet), q.Held = a ++ r → loop (Xar q) (a.length : Int) = some ((a.length + Xdj q.Next r : Nat) : Int) := by
  intro r
  induction r with
  | nil =>
   intro a ha
   rw [List.append_nil] at ha
   refine Xji ?_
   unfold Xar
   rw [Xet (by rw [ha]; omega), Xak, Xmr]; rfl
  | cons p r ih =>
   intro a ha
   have hlen : a.length < q.Held.length := by rw [ha]; simp
   have hp : q.Held.getD a.length Xac = p := by rw [ha]; exact Xdr a p _ r
   have hstep : Xar q (a.length : Int) = sel (!(p.First && p.Seq != q.Next)) (some (.go ((a.length + 1 : Nat) : Int))) (some (.done (a.length : Int))) := by
    unfold Xar
    simp only [Int.toNat_natCast, hp]
    rw [syA, rqA, rqA, rqA, rqA, wkA, Xe3, Xak]
    congr 1
    cases p.First <;> simp
   by_cases e : p.First = true ∧ p.Seq ≠ q.Next
   ·
    rw [Xax (by simp [e])] at hstep
    rw [Xbo hstep, Xdj, if_pos e]; rfl
   ·
    rw [Xa7 (by
     rw [Bool.not_eq_true', Bool.and_eq_false_iff]
     by_cases h1 : p.First = true
     ·
      right; simp; exact Classical.byContradiction fun h2 => e ⟨h1, h2⟩
     ·
      left; simpa using h1)] at hstep
    have := ih (a ++ [p]) (by rw [ha]; simp)
    rw [List.length_append, List.length_singleton] at this
    rw [Xeg hstep, Xdj, if_neg e, this]
    congr 2
    omega
 have := key q.Held [] rfl
 simpa using this
theorem Xk7 {α : Type} (l : List α) (k : Nat) : (l.drop k).take (l.length - k) = l.drop k := List.take_of_length_le (by rw [List.length_drop]; omega)
theorem Xhk (q : Queue) (w : Int) (hl : q.Held.length ≤ 1048576) : Xcb q w = some (Xml q w) := by
 have hm : maxLen = 9223372036854775807 := rfl
 unfold Xcb Xml
 rw [Xj5 q hl, Xak, Xj1, Xak]
 by_cases h : Xcy q = true ∧ 0 ≤ w ∧ w ≤ 20
 ·
  rw [if_pos h, Xa7 h.1, Xbu, Xak, Xak, Xax (by simpa using h.2), Xiq q h.1, Xak]
  have hq := Xeb h.1
  have hr := Xmm q.Next q.Held 0
  generalize Xb3 q.Next 0 q.Held = r at hr ⊢
  simp only [Int.toNat_natCast, Int.toNat_zero, List.drop_zero, List.length_nil, List.nil_append, Nat.zero_add, Nat.sub_zero, Xk7]
  by_cases hr0 : 0 < r
  ·
   rw [if_pos hr0, syA, rqA, Xer (by simp only [List.length_take]; omega), Xfe, Xak, rqA, Xer (by simp only [List.length_drop]; omega)]
  ·
   rw [if_neg hr0, snA]
   by_cases h0 : q.Held.length = 0
   ·
    rw [if_pos h0, Xa7 (by simp [h0])]
   ·
    rw [if_neg h0, Xax (by simpa using h0)]
    by_cases ha : q.Age < w
    ·
     rw [if_pos ha, Xhg ha, wkA]
    ·
     rw [if_neg ha, Xet ha, Xp0 q hq.2.2.1, Xak]
     have hs := Xn7 q.Next q.Held
     have hn : Xpo q = if Xdj q.Next q.Held < q.Held.length then (q.Held.getD (Xdj q.Next q.Held) Xac).Seq else Xbt (q.Held.getD (q.Held.length - 1) Xac).Seq 1 := rfl
     generalize Xdj q.Next q.Held = s at hs hn ⊢
     rw [Xj7 _ (Xlz hq.2.2.2.2.2.1).2.2.2.2]
     simp only [Int.toNat_natCast, Xk7, Xak, hn]
     by_cases hsl : s < q.Held.length
     ·
      rw [syA, rqA, rqA, Xak, rqA, Xer (by simp only [List.length_drop]; omega), if_pos hsl]
     ·
      rw [snA, wkA, rqA, rqA, Xfe, Xak, Xak, rqA, Xer (by simp only [List.length_drop]; omega), if_neg hsl]
      rw [show ((s : Int) - 1).toNat = q.Held.length - 1 by omega]
 ·
  rw [if_neg h]
  cases hb : Xcy q with
  | false => rw [Xmr, Xak, Xnd]
  | true =>
   have h' : ¬ (0 ≤ w ∧ w ≤ 20) := fun e => h ⟨hb, e⟩
   rw [Xnd, Xbu, Xak, Xak, Xa7 (by simp; omega)]
def Xmw (q : Queue) (r : Nat) : Queue × List Packet × Int := (⟨q.Begun, Xbt q.Next r, 0, q.Held.drop r, q.Late, q.Far, q.Twice, q.Over, q.Lost⟩, q.Held.take r, 1)
theorem Xp5 (q : Queue) (h : Xcy q = true) : loop (Xao q q) 0 = some (if 0 < Xb3 q.Next 0 q.Held then .ret (Xmw q (Xb3 q.Next 0 q.Held)) else .out ()) := by
 have hm : maxLen = 9223372036854775807 := rfl
 have hq := Xeb h
 have key : ∀ (r a : List Packet), q.Held = a ++ r → loop (Xao q q) (a.length : Int) = some (if 0 < Xb3 q.Next a.length r then .ret (Xmw q (Xb3 q.Next a.length r)) else .out ()) := by
  intro r
  induction r with
  | nil =>
   intro a ha
   rw [List.append_nil] at ha
   refine Xji ?_
   unfold Xao
   rw [Xet (by rw [ha]; omega)]; rfl
  | cons p r ih =>
   intro a ha
   have hlen : a.length < q.Held.length := by rw [ha]; simp
   have hp : q.Held.getD a.length Xac = p := by rw [ha]; exact Xdr a p _ r
   have hstep : Xao q q (a.length : Int) = sel (p.Seq != Xbt q.Next a.length) (some (.done (.out ()))) (sel p.Last (some (.done (.ret (⟨q.Begun, Xbt p.Seq 1, 0, q.Held.drop (a.length + 1), q.Late, q.Far, q.Twice, q.Over, q.Lost⟩, q.Held.take (a.length + 1), 1)))) (some (.go ((a.length + 1 : Nat) : Int)))) := by
    unfold Xao
    rw [wkA (e := (a.length : Int) + 1)]
    have e1 : ((a.length : Int) + 1).toNat = a.length + 1 := by omega
    simp only [Int.toNat_natCast, hp, e1, Int.toNat_zero, List.drop_zero, List.length_nil, List.nil_append, Nat.zero_add, Nat.sub_zero, Xk7]
    rw [syA, rqA, rqA, Xdz, Xak, rqA, Xer (by simp only [List.length_take]; omega), rqA, Xer (by simp only [List.length_drop]; omega), Xdz, Xak]
    rfl
   by_cases e : p.Seq = Xbt q.Next a.length
   ·
    rw [Xax (by simpa using e)] at hstep
    by_cases e2 : p.Last = true
    ·
     rw [Xa7 e2] at hstep
     rw [Xbo hstep, Xb3, if_pos e, if_pos e2, if_pos (by omega), e, Xms (by omega) (by omega)]
     rfl
    ·
     rw [Xax (by simpa using e2)] at hstep
     have := ih (a ++ [p]) (by rw [ha]; simp)
     rw [List.length_append, List.length_singleton] at this
     rw [Xeg hstep, Xb3, if_pos e, if_neg e2, this]
   ·
    rw [Xa7 (by simpa using e)] at hstep
    rw [Xbo hstep, Xb3, if_neg e]; rfl
 exact key q.Held [] rfl
theorem Xpz (q : Queue) (n : Int) (hl : q.Held.length ≤ 24) : loop (Xap q n) 0 = some (if Xdj q.Next q.Held < q.Held.length then (q.Held.getD (Xdj q.Next q.Held) Xac).Seq else n, q.Held.drop (Xdj q.Next q.Held)) := by
 have hm : maxLen = 9223372036854775807 := rfl
 have key : ∀ (r a : List Packet), q.Held = a ++ r → loop (Xap q n) (a.length : Int) = some (if a.length + Xdj q.Next r < q.Held.length then (q.Held.getD (a.length + Xdj q.Next r) Xac).Seq else n, q.Held.drop (a.length + Xdj q.Next r)) := by
  intro r
  induction r with
  | nil =>
   intro a ha
   rw [List.append_nil] at ha
   refine Xji ?_
   unfold Xap
   rw [Xet (by rw [ha]; omega)]
   rw [show Xdj q.Next [] = 0 from rfl, Nat.add_zero, if_neg (by rw [ha]; omega), List.drop_eq_nil_of_le (by rw [ha]; omega)]
  | cons p r ih =>
   intro a ha
   have hlen : a.length < q.Held.length := by rw [ha]; simp
   have hp : q.Held.getD a.length Xac = p := by rw [ha]; exact Xdr a p _ r
   have hstep : Xap q n (a.length : Int) = sel (p.First && p.Seq != q.Next) (some (.done (p.Seq, q.Held.drop a.length))) (some (.go ((a.length + 1 : Nat) : Int))) := by
    unfold Xap
    simp only [Int.toNat_natCast, hp, List.length_nil, List.nil_append, Nat.zero_add, Xk7]
    rw [syA, rqA, rqA, Xer (by simp only [List.length_drop]; omega), wkA, Xjv, Xak]
    rfl
   by_cases e : p.First = true ∧ p.Seq ≠ q.Next
   ·
    rw [Xa7 (by simp [e])] at hstep
    rw [Xbo hstep, Xdj, if_pos e, Nat.add_zero, if_pos hlen, hp]
   ·
    rw [Xax (by
     rw [Bool.and_eq_false_iff]
     by_cases h1 : p.First = true
     ·
      right; simp; exact Classical.byContradiction fun h2 => e ⟨h1, h2⟩
     ·
      left; simpa using h1)] at hstep
    have := ih (a ++ [p]) (by rw [ha]; simp)
    rw [List.length_append, List.length_singleton] at this
    rw [Xeg hstep, Xdj, if_neg e, this, show a.length + 1 + Xdj q.Next r = a.length + (Xdj q.Next r + 1) by omega]
 have := key q.Held [] rfl
 simpa using this
theorem Xek (q : Queue) (w : Int) (hl : q.Held.length ≤ 1048576) : Xbx q w = some (Xml q w) := by
 unfold Xbx Xml
 rw [Xgy q hl, Xak, Xi9, Xak]
 by_cases h : Xcy q = true ∧ 0 ≤ w ∧ w ≤ 20
 ·
  rw [if_pos h, Xa7 h.1, Xbj, Xak, Xak, Xax (by simpa using h.2), Xp5 q h.1, Xak]
  have hq := Xeb h.1
  by_cases hr0 : 0 < Xb3 q.Next 0 q.Held
  ·
   rw [if_pos hr0, if_pos hr0]; rfl
  ·
   rw [if_neg hr0, if_neg hr0]
   simp only
   by_cases h0 : q.Held.length = 0
   ·
    rw [if_pos h0, Xa7 (by simp [h0])]
   ·
    rw [if_neg h0, Xax (by simpa using h0)]
    by_cases ha : q.Age < w
    ·
     rw [if_pos ha, Xhg ha, wkA]
    ·
     rw [if_neg ha, Xet ha, Xjd _ (Xlz hq.2.2.2.2.2.1).2.2.2.2, Xak, wkA, rqA, Xdz, Xak, Xpz q _ hq.2.2.1, Xak]
     rw [show ((q.Held.length : Int) - 1).toNat = q.Held.length - 1 by omega]
     rfl
 ·
  rw [if_neg h]
  cases hb : Xcy q with
  | false => rw [Xmr, Xak, Xnd]
  | true =>
   have h' : ¬ (0 ≤ w ∧ w ≤ 20) := fun e => h ⟨hb, e⟩
   rw [Xnd, Xbj, Xak, Xak, Xa7 (by simp; omega)]
theorem Xfb (q : Queue) (h : q.Held.length ≤ 1048576) : Xbr q = some q := by
 unfold Xbr
 rw [Xhb q.Held h, Xak]
theorem Xcw (q : Queue) (h : q.Held.length ≤ 1048600) : Xbq q q = some true := by
 unfold Xbq
 simp only [Xcf q.Held h, Xak, bne_self_eq_false, Xmr, beq_self_eq_true, Bool.not_true]
theorem Xep (q : Queue) (k : Int) (h0 : 0 < k) (h1 : k ≤ 100000000) (hl : q.Held.length ≤ 1048600) : Xb0 q k = some (k + 4 * q.Held.length, (⟨q.Begun, q.Next, q.Age, Xgd k q.Held, q.Late, q.Far, q.Twice, q.Over, q.Lost⟩ : Queue)) := by
 unfold Xb0
 rw [Xd1 q.Held k h0 h1 hl, Xak]
theorem Xg3 (q : Queue) (l : List Packet) (k : Int) (h : q.Held = Xgd k l) (h0 : 0 < k) (h1 : k ≤ 100000000) (hl : l.length ≤ 1048600) : Xbz q k = some (k + 4 * l.length) := by
 unfold Xbz
 rw [h, Xch l k h0 h1 hl, Xak, snA]
theorem Xjh (q : Queue) (h : Xlk q) : ∃ t, Xc8 q 1048576 = some t ∧ t ≤ 1048576 ∧ (0 ≤ t → q.Held.length ≤ 1048576) ∧ -1 ≤ t := by
 unfold Xlk at h
 obtain ⟨t, e, h1, h2, h3⟩ := Xg7 q.Held h.2.2.2.1.1 (fun x hx => (h.2.2.2.1.2 x hx).2.2.2) 1048576 (by omega) (by omega)
 unfold Xc8
 rw [e, Xak, Xpw]
 split
 ·
  exact ⟨_, rfl, by omega, by omega, by omega⟩
 ·
  exact ⟨_, rfl, by omega, fun h => by have := h2 h; omega, by omega⟩
theorem Xpq (q : Queue) (w : Int) (hl : q.Held.length ≤ 1048576) : (Xml q w).1.Held.length ≤ 1048576 ∧ (Xml q w).2.1.length ≤ 1048576 := by
 unfold Xml
 repeat' split
 all_goals (simp only [List.length_take, List.length_drop, List.length_nil]; omega)
theorem FnExactQueueTick {p0 : Queue} {p1 : Int} (h0 : Xlk p0) (h1 : (Lit.int .i64 p1).wf = true) : Xbe p0 p1 = some true := by
 unfold Xbe
 obtain ⟨t, e, a1, a2, a3⟩ := Xjh p0 h0
 rw [e, Xak]
 by_cases ht : t < 0
 ·
  rw [Xhg ht]
 rw [Xet ht]
 have hl := a2 (by omega)
 have hq := Xpq p0 p1 hl
 rw [Xfb p0 hl, Xak, Xhk p0 p1 hl, Xak, Xak, Xek p0 p1 hl, Xak]
 generalize hg : Xml p0 p1 = g at hq ⊢
 obtain ⟨g0, g1, g2⟩ := g
 simp only at hq ⊢
 simp only [Xcw g0 (Nat.le_trans hq.1 (by decide)), Xcf g1 (Nat.le_trans hq.2 (by decide)), Xak, Xnd, bne_self_eq_false, Xmr, Xcw p0 (Nat.le_trans hl (by decide)), Xrs, Xep p0 1 (by omega) (by omega) (by omega), Xep g0 1 (by omega) (by omega) (by omega)]
 rw [snA, Xd1 g1 _ (by omega) (by omega) (by omega)]
 simp only [Xak, Xmr]
 rw [Xg3 _ g0.Held 1 rfl (by omega) (by omega) (by omega), Xak, snA, Xch g1 _ (by omega) (by omega) (by omega), Xak, snA]
 simp only [bne_self_eq_false, Xmr, Xfb p0 hl, Xak, Xek p0 p1 hl, hg, Xcw g0 (Nat.le_trans hq.1 (by decide)), Xcf g1 (Nat.le_trans hq.2 (by decide)), Xnd]
 rw [snA, Xch g1 _ (by omega) (by omega) (by omega), Xak, snA]
 simp only [bne_self_eq_false, Xmr]
end Go.Proofs.Ytlebkepfhdjnmaa.A.Pure
