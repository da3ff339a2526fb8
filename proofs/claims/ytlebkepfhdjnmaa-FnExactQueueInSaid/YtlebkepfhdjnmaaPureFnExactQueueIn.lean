/- The pure statement of the law FnExactQueueIn: over numbers, texts and lists alone, what the law computes is true. Conditions: the sizes of what a machine holds. -/
import Derived.Test.YtlebkepfhdjnmaaDFnExactQueueIn
namespace Go.Proofs.Ytlebkepfhdjnmaa.A.Pure
open Go Go.Proofs Go.Proofs.YtlebkepfhdjnmaaAL Go.RowKit
set_option linter.unusedVariables false
set_option linter.unusedSimpArgs false
set_option maxHeartbeats 1000000
theorem Xaj {α β : Type} (a : α) (f : α → Option β) : bnd (some a) f = f a := rfl
theorem Xg4 {β : Type} (x y : β) : sel true x y = x := rfl
theorem Xkg {β : Type} (x y : β) : sel false x y = y := rfl
theorem Xit {β : Type} (b : Bool) (x y : β) : sel (!b) x y = sel b y x := by cases b <;> rfl
theorem Xmb (b x : Bool) : sel b (some x) (some false) = some (b && x) := by cases b <;> rfl
theorem Xo0 (b x : Bool) : sel b (some true) (some x) = some (b || x) := by cases b <;> rfl
theorem Xft (b x : Bool) : sel b (some x) (some true) = some (!b || x) := by cases b <;> rfl
theorem Xnh {β : Type} (p : Prop) [Decidable p] (x y : β) : sel (decide p) x y = if p then x else y := by
 by_cases h : p <;> simp [h, sel]
theorem Xcq {β : Type} {b : Bool} {x y : β} (h : b = true) : sel b x y = x := by subst h; rfl
theorem Xbk {β : Type} {b : Bool} {x y : β} (h : b = false) : sel b x y = y := by subst h; rfl
theorem Xd9 {β : Type} {p : Prop} [Decidable p] {x y : β} (h : p) : sel (decide p) x y = x := by simp [h, sel]
theorem Xd8 {β : Type} {p : Prop} [Decidable p] {x y : β} (h : ¬ p) : sel (decide p) x y = y := by simp [h, sel]
theorem Xdv {β : Type} {c : Prop} [Decidable c] {k : Option β} (h : c) : req c k = k := if_pos h
theorem wk {e : Int} (h1 : -9223372036854775808 ≤ e) (h2 : e ≤ 9223372036854775807) : Xak .i64 e = e := by
 show wrap64 e = e
 unfold wrap64; omega
theorem rqA {β : Type} {c : Prop} [Decidable c] {k : Option β} (h : c := by omega) : req c k = k := Xdv h
theorem syA {β : Type} {c : Prop} [Decidable c] {x y : β} (h : c := by omega) : sel (decide c) x y = x := Xd9 h
theorem snA {β : Type} {c : Prop} [Decidable c] {x y : β} (h : ¬ c := by omega) : sel (decide c) x y = y := Xd8 h
theorem wkA {e : Int} (h1 : -9223372036854775808 ≤ e := by omega) (h2 : e ≤ 9223372036854775807 := by omega) : Xak .i64 e = e := wk h1 h2
theorem Xe7 {a b : Int} (h : 0 ≤ a) : Int.tmod a b = a % b := Int.tmod_eq_emod_of_nonneg h
theorem Xrm {a b : Int} (h : 0 ≤ a) : Int.tdiv a b = a / b := Int.tdiv_eq_ediv_of_nonneg h
theorem Xp1 {P : Nat → Prop} (n : Nat) (h0 : P n) (hs : ∀ i, i < n → P (i + 1) → P i) : ∀ i, i ≤ n → P i := by
 intro i hi
 obtain ⟨k, rfl⟩ : ∃ k, n = i + k := ⟨n - i, by omega⟩
 clear hi
 induction k generalizing i with
 | zero => exact h0
 | succ k ih =>
  refine hs i (by omega) ?_
  exact ih (i + 1) (by rw [show i + 1 + k = i + (k + 1) by omega]; exact h0) (fun j hj => hs j (by omega))
theorem lgo {V O : Type} {f : V → Option (Lp V O)} {x y : V} {r : Option O} (h : f x = some (.go y)) (k : loop f y = r) : loop f x = r := by rw [Xek h]; exact k
theorem Xm2 {V O : Type} {f : V → Option (Lp V O)} {x : V} {o : O} (h : f x = some (.done o)) : loop f x = some o := Xbw h
theorem Xop {V O : Type} {f : V → Option (Lp V O)} (I : V → Prop) (m : V → Nat) (Q : V → O → Prop) (h : ∀ v, I v → (∃ o, f v = some (.done o) ∧ Q v o) ∨ ∃ v', f v = some (.go v') ∧ I v' ∧ m v' < m v ∧ ∀ o, Q v' o → Q v o) : ∀ v, I v → ∃ o, loop f v = some o ∧ Q v o := by
 intro v
 generalize hn : m v = n
 induction n using Nat.strongRecOn generalizing v with
 | _ n ih =>
  intro hv
  rcases h v hv with ⟨o, h1, h2⟩ | ⟨v', h1, h2, h3, h4⟩
  ·
   exact ⟨o, Xbw h1, h2⟩
  ·
   obtain ⟨o, h5, h6⟩ := ih (m v') (by omega) v' rfl h2
   exact ⟨o, by rw [Xek h1]; exact h5, h4 o h6⟩
theorem Xr6 {α : Type} (l : List α) (i : Nat) (h : i < l.length) (d : α) : l.getD i d = l[i] := by
 simp [List.getD_eq_getElem?_getD, List.getElem?_eq_getElem h]
theorem Xb1 (a b c : Int) : Xbf a b c = some (decide (b ≤ a ∧ a ≤ c)) := by
 unfold Xbf
 by_cases h : b ≤ a <;> simp [bnd, sel, h]
theorem Xca (a b c : Int) : Xa0 a b c = some (decide (b ≤ a ∧ a ≤ c)) := by
 unfold Xa0
 by_cases h : b ≤ a <;> simp [bnd, sel, h]
theorem Xcm (a : Int) : Xau a = some (decide (0 ≤ a ∧ a ≤ 65535)) := by
 unfold Xau; rw [Xb1]; rfl
theorem Xqr {α : Type} (a : List α) (x y : α) (b : List α) : (a ++ x :: b).set a.length y = a ++ y :: b := by
 induction a with
 | nil => rfl
 | cons z a ih => simp only [List.cons_append, List.length_cons, List.set_cons_succ, ih]
theorem Xed {α : Type} (a : List α) (x d : α) (b : List α) : (a ++ x :: b).getD a.length d = x := by
 induction a with
 | nil => rfl
 | cons z a ih => simp
theorem Xp2 {α β : Type} (l : List α) (g : α → β) (d : α) (e : β) {f : (Int × List β) → Option (Lp (Int × List β) (List β))}
  (h : ∀ (i : Nat) (o : List β), i < l.length → o.length = l.length → f ((i : Int), o) = some (.go (((i + 1 : Nat) : Int), o.set i (g (l.getD i d))))) (h0 : ∀ o, f ((l.length : Int), o) = some (.done o)) : loop f (0, List.replicate l.length e) = some (l.map g) := by
 have key : ∀ (r a : List α), l = a ++ r → loop f ((a.length : Int), a.map g ++ List.replicate r.length e) = some (l.map g) := by
  intro r
  induction r with
  | nil =>
   intro a ha
   rw [List.append_nil] at ha
   subst ha
   rw [Xbw (h0 _)]; simp
  | cons x r ih =>
   intro a ha
   have hlen : a.length < l.length := by rw [ha]; simp
   rw [Xek (h a.length _ hlen (by rw [ha]; simp))]
   have e1 : l.getD a.length d = x := by rw [ha]; exact Xed a x d r
   have e2 : (a.map g ++ List.replicate (x :: r).length e).set a.length (g x) = (a ++ [x]).map g ++ List.replicate r.length e := by
    have := Xqr (a.map g) e (g x) (List.replicate r.length e)
    rw [List.length_map] at this
    rw [List.length_cons, List.replicate_succ, this]
    simp
   rw [e1, e2]
   have := ih (a ++ [x]) (by rw [ha]; simp)
   rw [List.length_append, List.length_singleton] at this
   exact this
 exact key l [] rfl
theorem Xqq {f : Int → Option (Lp Int (Ou Unit Bool))} (n : Nat) (h : ∀ i : Nat, i < n → f i = some (.go ((i + 1 : Nat) : Int))) (h0 : f n = some (.done (.out ()))) : loop f 0 = some (.out ()) :=
 Xp1 (P := fun i => loop f (i : Int) = some (.out ())) n (Xbw h0) (fun i hi ih => by rw [Xek (h i hi)]; exact ih) 0 (by omega)
theorem Xsi {f : (Int × Int) → Option (Lp (Int × Int) (Ou Int Int))} (n : Nat) (B : Int) (h : ∀ (i : Nat) (m : Int), i < n → 0 ≤ m → m ≤ B → f (m, (i : Int)) = some (.done (.ret (-1))) ∨ ∃ m', f (m, (i : Int)) = some (.go (m', ((i + 1 : Nat) : Int))) ∧ 0 ≤ m' ∧ m' ≤ m)
  (h0 : ∀ m, f (m, (n : Int)) = some (.done (.out m))) (m : Int) (hm : 0 ≤ m) (hB : m ≤ B) : loop f (m, 0) = some (.ret (-1)) ∨ ∃ t, loop f (m, 0) = some (.out t) ∧ 0 ≤ t ∧ t ≤ m := by
 refine Xp1 (P := fun i => ∀ m : Int, 0 ≤ m → m ≤ B → loop f (m, (i : Int)) = some (.ret (-1)) ∨ ∃ t, loop f (m, (i : Int)) = some (.out t) ∧ 0 ≤ t ∧ t ≤ m) n ?_ ?_ 0 (by omega) m hm hB
 ·
  intro m h1 h2; exact .inr ⟨m, Xbw (h0 m), h1, Int.le_refl _⟩
 ·
  intro i hi ih m h1 h2
  rcases h i m hi h1 h2 with e | ⟨m', e, h3, h4⟩
  ·
   exact .inl (Xbw e)
  ·
   rw [Xek e]
   rcases ih m' h3 (by omega) with e | ⟨t, e, h5, h6⟩
   ·
    exact .inl e
   ·
    exact .inr ⟨t, e, h5, by omega⟩
theorem Xg5 (n : Int) : (strOfNums [n]).size = 1 := rfl
theorem Xin (k : Int) (h0 : 0 < k) (h1 : k ≤ 1000000000000) : ∃ s, Xbc k = some s := by
 unfold Xbc
 rw [snA]
 obtain ⟨o, h, h2⟩ := Xop (f := Xcn) (fun v => 0 ≤ v.1 ∧ v.1 + v.2.size ≤ 1000000000000) (fun v => v.1.toNat) (fun _ o => o.size ≤ 1000000000000) (by
  intro ⟨n, s⟩ ⟨a, b⟩
  unfold Xcn
  simp only at a b ⊢
  by_cases h : n > 0
  ·
   rw [Xd9 h, Xdv (by decide), Xg5, rqA, Xdv (by decide), Xrm a]
   refine .inr ⟨_, rfl, ?_, ?_, fun _ h => h⟩
   ·
    simp only [ByteArray.size_append, Xg5]
    rw [wkA]; omega
   ·
    simp only
    rw [wkA]; omega
  ·
   rw [Xd8 h]
   exact .inl ⟨_, rfl, by omega⟩) (k, ⟨#[]⟩) ⟨by simp only; omega, by simp only [show (⟨#[]⟩ : ByteArray).size = 0 from rfl]; omega⟩
 rw [h, Xaj, Xdv (by simp only [show (⟨#[109]⟩ : ByteArray).size = 1 from rfl]; omega)]
 exact ⟨_, rfl⟩
noncomputable def mT (k : Int) : ByteArray := (Xbc k).getD ⟨#[]⟩
theorem Xfc (k : Int) (h0 : 0 < k) (h1 : k ≤ 1000000000000) : Xbc k = some (mT k) := by
 obtain ⟨s, h⟩ := Xin k h0 h1
 unfold mT; rw [h]; rfl
def Xnr (n a b : Int) : Int := if b < a ∨ n < a then a else if n > b then b else n
theorem Xfe (p : Packet) (m : Int) (h0 : 0 ≤ m) (h1 : m ≤ 1048576) (hs : p.Bytes.size ≤ maxLen) : Xb8 p m = some (if m < p.Bytes.size then -1 else m - p.Bytes.size) := by
 have hm : maxLen = 9223372036854775807 := rfl
 unfold Xb8
 rw [wkA, Xnh]
 by_cases h : m < p.Bytes.size
 ·
  rw [if_pos h, if_pos (by omega)]
 ·
  rw [if_neg h, if_neg (by omega)]
theorem Xhs (l : List Packet) (hl : l.length ≤ maxLen) (hs : ∀ x ∈ l, x.Bytes.size ≤ maxLen) (m : Int) (h0 : 0 ≤ m) (h1 : m ≤ 1048576) : ∃ t, Xci l m = some t ∧ t ≤ m ∧ (0 ≤ t → l.length ≤ m) ∧ -1 ≤ t := by
 have hm : maxLen = 9223372036854775807 := rfl
 unfold Xci
 rw [wkA]
 by_cases h : m - l.length < 0
 ·
  rw [Xd9 h]; exact ⟨_, rfl, by omega, by omega, by omega⟩
 ·
  rw [Xd8 h]
  rcases Xsi (f := Xbi l) l.length 1048576 (by
   intro i m hi h0 h1
   unfold Xbi
   simp only
   rw [syA, rqA, Xfe _ m h0 h1 (by rw [Int.toNat_natCast, Xr6 l i hi]; exact hs _ (List.getElem_mem hi)), Xaj]
   split
   ·
    left; rw [syA]
   ·
    right; rw [snA, wkA]; exact ⟨_, rfl, by omega, by omega⟩) (by
   intro m; unfold Xbi; simp only; rw [snA]) (m - l.length) (by omega) (by omega) with e | ⟨t, e, h2, h3⟩
  ·
   rw [e]; exact ⟨_, rfl, by omega, by omega, by omega⟩
  ·
   rw [e]; exact ⟨_, rfl, by omega, by omega, by omega⟩
theorem Xhw (l : List Packet) (hl : l.length ≤ 1048576) : Xcj l = some l := by
 unfold Xcj
 rw [rqA, Int.toNat_natCast]
 have := Xp2 l (fun p : Packet => p) Xad Xad (f := Xbj l) (by
  intro i o hi ho
  unfold Xbj
  simp only
  rw [syA, rqA, Xbd, Xaj, rqA, rqA, wkA]
  rfl) (by
  intro o; unfold Xbj; simp only; rw [snA])
 rw [this, Xaj, List.map_id']
theorem Xgt (p : Packet) : Xc0 p p = some true := by
 unfold Xc0
 simp [sel]
theorem Xgg (l : List Packet) (hl : l.length ≤ 1048600) : Xch l l = some true := by
 unfold Xch
 rw [Xbk (by simp), Xqq l.length (f := Xbh l l) (by
  intro i hi
  unfold Xbh
  rw [syA, rqA, rqA, Xgt, Xaj, Xit, Xg4, wkA]
  rfl) (by unfold Xbh; rw [snA])]
 rfl
noncomputable def Xg1 (k : Int) : List Packet → List Packet
 | [] => []
 | _ :: r => ⟨k, (k + 1) % 3 == 0, (k + 2) % 3 == 0, mT (k + 3)⟩ :: Xg1 (k + 4) r
theorem Xm8 : ∀ (l : List Packet) (k : Int), (Xg1 k l).length = l.length
 | [], _ => rfl
 | _ :: r, k => by rw [Xg1, List.length_cons, List.length_cons, Xm8 r]
theorem Xgk (l : List Packet) (k : Int) (h0 : 0 < k) (h1 : k ≤ 100000000) (hl : l.length ≤ 1048600) : Xbv l k = some (k + 4 * l.length, Xg1 k l) := by
 unfold Xbv
 have key : ∀ (r a : List Packet) (j : Int), 0 < j → j + 4 * r.length ≤ 200000000 → a.length + r.length ≤ 1048600 → loop Xa7 (j, (a.length : Int), a ++ r) = some (j + 4 * r.length, a ++ Xg1 j r) := by
  intro r
  induction r with
  | nil =>
   intro a j hj1 hj2 hl
   refine Xm2 ?_
   unfold Xa7
   simp only [List.append_nil]
   rw [snA]
   simp [Xg1]
  | cons p r ih =>
   intro a j hj1 hj2 hl
   simp only [List.length_cons] at hj2 hl ⊢
   have hcl : ∀ x : Packet, (a ++ x :: r).length = a.length + (r.length + 1) := fun x => by simp
   refine lgo (y := (j + 4, ((a ++ [(⟨j, (j + 1) % 3 == 0, (j + 2) % 3 == 0, mT (j + 3)⟩ : Packet)]).length : Int), (a ++ [(⟨j, (j + 1) % 3 == 0, (j + 2) % 3 == 0, mT (j + 3)⟩ : Packet)]) ++ r)) ?_ ?_
   ·
    unfold Xa7
    simp only [Int.toNat_natCast, Xaj, Xqr, Xed, hcl]
    rw [syA, rqA, rqA, Xdv (by decide), rqA, rqA, Xdv (by decide), rqA, rqA, wkA (e := j + 1), wkA (e := j + 1 + 1), wkA (e := j + 1 + 1 + 1), wkA (e := j + 1 + 1 + 1 + 1), Xfc _ (by omega) (by omega), Xaj, rqA, rqA, wkA (e := (a.length : Int) + 1), Xe7 (by omega), Xe7 (by omega)]
    rw [show j + 1 + 1 + 1 + 1 = j + 4 by omega, show j + 1 + 1 + 1 = j + 3 by omega, show j + 1 + 1 = j + 2 by omega]
    simp
   ·
    rw [ih _ (j + 4) (by omega) (by omega) (by simp; omega)]
    simp only [Xg1, List.append_assoc, List.singleton_append]
    congr 2
    omega
 have := key l [] k h0 (by omega) (by simp; omega)
 simp only [List.length_nil, List.nil_append] at this
 rw [show ((k, 0, l) : Int × Int × List Packet) = (k, ((0 : Nat) : Int), l) from rfl, this]
 rfl
theorem Xgi (l : List Packet) (k : Int) (h0 : 0 < k) (h1 : k ≤ 100000000) (hl : l.length ≤ 1048600) : Xbu (Xg1 k l) k = some (k + 4 * l.length) := by
 unfold Xbu
 have key : ∀ (r a : List Packet) (j : Int), 0 < j → j + 4 * r.length ≤ 200000000 → a.length + r.length ≤ 1048600 → loop (Xa6 (a ++ Xg1 j r)) (j, (a.length : Int)) = some (.out (j + 4 * r.length)) := by
  intro r
  induction r with
  | nil =>
   intro a j hj1 hj2 hl
   refine Xm2 ?_
   unfold Xa6
   simp only [Xg1, List.append_nil]
   rw [snA]
   simp
  | cons p r ih =>
   intro a j hj1 hj2 hl
   simp only [List.length_cons] at hj2 hl ⊢
   have hcl : ∀ (x : Packet) (r : List Packet), (a ++ x :: r).length = a.length + (r.length + 1) := fun x r => by simp
   refine lgo (y := (j + 4, ((a ++ [(⟨j, (j + 1) % 3 == 0, (j + 2) % 3 == 0, mT (j + 3)⟩ : Packet)]).length : Int))) ?_ ?_
   ·
    unfold Xa6
    simp only [Xg1, Int.toNat_natCast, Xed, hcl, Xm8]
    rw [syA, rqA, Xbk (by simp), rqA, Xdv (by decide), wkA (e := j + 1), Xe7 (by omega), Xbk (by simp), rqA, Xdv (by decide), wkA (e := j + 1 + 1), Xe7 (by omega), Xbk (by rw [show j + 1 + 1 = j + 2 by omega]; simp), rqA,
     wkA (e := j + 1 + 1 + 1), Xfc _ (by omega) (by omega), Xaj, Xbk (by rw [show j + 1 + 1 + 1 = j + 3 by omega]; simp), wkA (e := j + 1 + 1 + 1 + 1), wkA (e := (a.length : Int) + 1)]
    simp; omega
   ·
    have := ih (a ++ [(⟨j, (j + 1) % 3 == 0, (j + 2) % 3 == 0, mT (j + 3)⟩ : Packet)]) (j + 4) (by omega) (by omega) (by simp; omega)
    simp only [Xg1]
    rw [List.append_assoc, List.singleton_append] at this
    rw [this]
    congr 2
    omega
 have := key l [] k h0 (by omega) (by simp; omega)
 simp only [List.length_nil, List.nil_append] at this
 rw [show ((k, 0) : Int × Int) = (k, ((0 : Nat) : Int)) from rfl, this]
 rfl
def Xdw (a b : Int) : Int := if 0 ≤ a ∧ a ≤ 65535 ∧ 0 ≤ b ∧ b ≤ 65535 then (a + b) % 65536 else 0
theorem Xjv (a b : Int) : Xdi a b = some (Xdw a b) := by
 unfold Xdi Xdw
 simp only [Xcm, Xaj, Xft]
 by_cases h : 0 ≤ a ∧ a ≤ 65535 ∧ 0 ≤ b ∧ b ≤ 65535
 ·
  rw [if_pos h, Xbk (by simp; omega), Xdv (by decide), wkA, Xe7 (by omega)]
 ·
  rw [if_neg h, Xcq (by simp; omega)]
theorem Xkq (a b : Int) : Xdn a b = some (Xdw a b) := by
 unfold Xdn Xdw
 simp only [Xca, Xaj, Xft]
 by_cases h : 0 ≤ a ∧ a ≤ 65535 ∧ 0 ≤ b ∧ b ≤ 65535
 ·
  rw [if_pos h, Xbk (by simp; omega), Xdv (by decide), wkA, Xe7 (by omega)]
 ·
  rw [if_neg h, Xcq (by simp; omega)]
def Xam (a b : Int) : Int := if 0 ≤ a ∧ a ≤ 65535 ∧ 0 ≤ b ∧ b ≤ 65535 then (if b - a > 32767 then b - a - 65536 else if b - a < -32768 then b - a + 65536 else b - a) else 0
theorem Xcf (a b : Int) : Xbp a b = some (Xam a b) := by
 unfold Xbp Xam
 simp only [Xcm, Xaj, Xft]
 by_cases h : 0 ≤ a ∧ a ≤ 65535 ∧ 0 ≤ b ∧ b ≤ 65535
 ·
  rw [if_pos h, Xbk (by simp; omega), Xdv (by decide), wkA (e := b - a), wkA (e := b - a + 65536), Xe7 (by omega), wkA, Xnh]
  repeat' split
  all_goals (simp only [Xaj]; congr 1; omega)
 ·
  rw [if_neg h, Xcq (by simp; omega)]
theorem Xcl (a b : Int) : Xbs a b = some (Xam a b) := by
 unfold Xbs Xam
 simp only [Xca, Xaj, Xft]
 by_cases h : 0 ≤ a ∧ a ≤ 65535 ∧ 0 ≤ b ∧ b ≤ 65535
 ·
  rw [if_pos h, Xbk (by simp; omega), wkA (e := b - a), wkA]
  simp only [Xnh]
  by_cases h1 : b - a > 32767
  ·
   rw [if_pos h1, if_pos h1, Xaj, if_neg (by omega), Xaj]
  ·
   rw [if_neg h1, if_neg h1, Xaj]
   by_cases h2 : b - a < -32768
   ·
    rw [if_pos h2, if_pos h2, Xaj, wkA]
   ·
    rw [if_neg h2, if_neg h2, Xaj]
 ·
  rw [if_neg h, Xcq (by simp; omega)]
def Xar (p : Packet) : Bool := decide (0 ≤ p.Seq ∧ p.Seq ≤ 65535 ∧ 1 ≤ p.Bytes.size ∧ p.Bytes.size ≤ 400)
theorem Xh9 (p : Packet) : Xar p = true ↔ 0 ≤ p.Seq ∧ p.Seq ≤ 65535 ∧ 1 ≤ p.Bytes.size ∧ p.Bytes.size ≤ 400 := by simp [Xar]
theorem Xfa (p : Packet) : Xb7 p = some (Xar p) := by
 unfold Xb7 Xar
 simp only [Xcm, Xb1, Xaj, Xmb]
 congr 1
 rw [Bool.eq_iff_iff]; simp; omega
theorem Xfg (p : Packet) : Xb9 p = some (Xar p) := by
 unfold Xb9 Xar
 simp only [Xca, Xaj, Xmb]
 congr 1
 rw [Bool.eq_iff_iff]; simp; omega
def cnt (n : Int) : Bool := decide (0 ≤ n ∧ n ≤ 1000000000)
theorem Xi5 (n : Int) : Xa2 n = some (cnt n) := by
 unfold Xa2 cnt
 rw [Xca, Xaj]
def Xq0 (n : Int) : Int := if n + 1 < 1000000000 then n + 1 else 1000000000
theorem Xcy (n : Int) (h : cnt n = true) : Xbm n = some (Xq0 n) := by
 have h' : 0 ≤ n ∧ n ≤ 1000000000 := by simpa [cnt] using h
 unfold Xbm Xq0
 rw [wkA]
 congr 1
 split <;> split <;> omega
theorem Xkk (n a b : Int) : Xdl n a b = some (Xnr n a b) := by
 unfold Xdl Xnr
 rw [Xo0, Xaj]
 by_cases h : b < a ∨ n < a
 ·
  rw [if_pos h, Xcq (by simpa using h)]
 ·
  rw [if_neg h, Xbk (by simp; omega), Xnh]; split <;> rfl
theorem Xc7 (n : Int) (h : cnt n = true) : Xbo n = some (Xq0 n) := by
 have h' : 0 ≤ n ∧ n ≤ 1000000000 := by simpa [cnt] using h
 unfold Xbo Xq0
 rw [wkA, Xkk, Xaj]
 unfold Xnr
 congr 1
 repeat' split
 all_goals omega
def Xe8 (next : Int) : Int → List Packet → Bool
 | _, [] => true
 | Xeb, p :: r => Xar p && decide (Xeb < Xam next p.Seq ∧ Xam next p.Seq < 40) && Xe8 next (Xam next p.Seq) r
def Xr4 (q : Queue) : Bool := cnt q.Late && cnt q.Far && cnt q.Twice && cnt q.Over && cnt q.Lost
def Xc4 (q : Queue) : Bool :=
 if q.Begun = true then decide (0 ≤ q.Next ∧ q.Next ≤ 65535 ∧ 0 ≤ q.Age ∧ q.Age ≤ 20 ∧ q.Held.length ≤ 24) && (Xe8 q.Next (-1) q.Held && Xr4 q)
 else decide (q.Next = 0 ∧ q.Age = 0 ∧ q.Held.length = 0 ∧ q.Late = 0 ∧ q.Far = 0 ∧ q.Twice = 0 ∧ q.Over = 0 ∧ q.Lost = 0)
theorem Xfv (q : Queue) : Xcu q = some (Xc4 q) := by
 unfold Xcu Xc4
 simp only [Xca, Xi5, Xaj, Xmb, Xft]
 by_cases hb : q.Begun = true
 ·
  rw [Xbk (by simp [hb]), if_pos hb]
  by_cases h1 : 0 ≤ q.Next ∧ q.Next ≤ 65535 ∧ 0 ≤ q.Age ∧ q.Age ≤ 20 ∧ q.Held.length ≤ 24
  ·
   rw [Xbk (by simp; omega), decide_eq_true h1, Bool.true_and]
   have key : ∀ (r a : List Packet) (Xeb : Int), q.Held = a ++ r → loop (Xbl q) (Xeb, (a.length : Int)) = some (if Xe8 q.Next Xeb r = true then .out () else .ret false) := by
    intro r
    induction r with
    | nil =>
     intro a Xeb ha
     rw [List.append_nil] at ha
     refine Xm2 ?_
     unfold Xbl
     simp only
     rw [Xd8 (by rw [ha]; omega)]; rfl
    | cons p r ih =>
     intro a Xeb ha
     have hlen : a.length < q.Held.length := by rw [ha]; simp
     have hp : q.Held.getD a.length Xad = p := by rw [ha]; exact Xed a p _ r
     have hstep : Xbl q (Xeb, (a.length : Int)) = sel (!(Xar p && decide (Xeb < Xam q.Next p.Seq ∧ Xam q.Next p.Seq < 40))) (some (.done (.ret false))) (some (.go (Xam q.Next p.Seq, ((a.length + 1 : Nat) : Int)))) := by
      unfold Xbl
      simp only [Int.toNat_natCast, hp]
      rw [syA, rqA, Xcl, Xaj, rqA, Xfg, Xaj, wkA, Xo0, Xft, Xaj]
      congr 1
      cases Xar p <;> rw [Bool.eq_iff_iff] <;> simp <;> omega
     by_cases h : Xar p = true ∧ Xeb < Xam q.Next p.Seq ∧ Xam q.Next p.Seq < 40
     ·
      rw [lgo (by rw [hstep, Xbk (by simp [h])]) rfl]
      have := ih (a ++ [p]) (Xam q.Next p.Seq) (by rw [ha]; simp)
      rw [List.length_append, List.length_singleton] at this
      rw [this]
      simp [Xe8, h]
     ·
      rw [Xm2 (by rw [hstep, Xcq (by simp only [Bool.not_eq_true', Bool.and_eq_false_iff, decide_eq_false_iff_not]; by_cases hp : Xar p = true; exact .inr (fun e => h ⟨hp, e⟩); exact .inl (by simpa using hp))])]
      rw [if_neg]
      simp only [Xe8, Bool.and_eq_true, decide_eq_true_eq]
      exact fun e => h ⟨e.1.1, e.1.2⟩
   have := key q.Held [] (-1) rfl
   simp only [List.length_nil] at this
   rw [show (((-1 : Int), (0 : Int))) = ((-1), ((0 : Nat) : Int)) from rfl, this, Xaj]
   by_cases h2 : Xe8 q.Next (-1) q.Held = true
   ·
    rw [if_pos h2, h2]; simp only [Xr4, Bool.true_and, Bool.and_assoc]
   ·
    rw [if_neg h2]; simp only [Bool.not_eq_true] at h2; rw [h2]; rfl
  ·
   rw [Xcq (by simp; omega), decide_eq_false h1, Bool.false_and]
 ·
  rw [Xcq (by simpa using hb), if_neg hb]
  congr 1
  rw [Bool.eq_iff_iff]; simp
theorem Xfp (q : Queue) : Xcs q = some (Xc4 q) := by
 unfold Xcs Xc4
 simp only [Xcm, Xb1, Xaj, Xmb, Xft]
 by_cases hb : q.Begun = true
 ·
  rw [Xbk (by simp [hb]), if_pos hb]
  by_cases h1 : 0 ≤ q.Next ∧ q.Next ≤ 65535 ∧ 0 ≤ q.Age ∧ q.Age ≤ 20 ∧ q.Held.length ≤ 24
  ·
   rw [Xbk (by simp; omega), decide_eq_true h1, Bool.true_and]
   have key : ∀ (r a : List Packet) (Xeb : Int), q.Held = a ++ r → -1 ≤ Xeb → Xeb < 40 → loop (Xbg q) (Xeb, (a.length : Int)) = some (if Xe8 q.Next Xeb r = true then .out () else .ret false) := by
    intro r
    induction r with
    | nil =>
     intro a Xeb ha _ _
     rw [List.append_nil] at ha
     refine Xm2 ?_
     unfold Xbg
     simp only
     rw [Xd8 (by rw [ha]; omega)]; rfl
    | cons p r ih =>
     intro a Xeb ha hl1 hl2
     have hlen : a.length < q.Held.length := by rw [ha]; simp
     have hp : q.Held.getD a.length Xad = p := by rw [ha]; exact Xed a p _ r
     have hstep : Xbg q (Xeb, (a.length : Int)) = sel (!(Xar p && decide (Xeb < Xam q.Next p.Seq ∧ Xam q.Next p.Seq < 40))) (some (.done (.ret false))) (some (.go (Xam q.Next p.Seq, ((a.length + 1 : Nat) : Int)))) := by
      unfold Xbg
      simp only [Int.toNat_natCast, hp]
      rw [syA, rqA, Xcf, Xaj, Xfa, Xaj, wkA, Xb1, Xaj, wkA, Xft, Xaj]
      congr 1
      cases Xar p <;> rw [Bool.eq_iff_iff] <;> simp <;> omega
     by_cases h : Xar p = true ∧ Xeb < Xam q.Next p.Seq ∧ Xam q.Next p.Seq < 40
     ·
      rw [lgo (by rw [hstep, Xbk (by simp [h])]) rfl]
      have := ih (a ++ [p]) (Xam q.Next p.Seq) (by rw [ha]; simp) (by omega) (by omega)
      rw [List.length_append, List.length_singleton] at this
      rw [this]
      simp [Xe8, h]
     ·
      rw [Xm2 (by rw [hstep, Xcq (by simp only [Bool.not_eq_true', Bool.and_eq_false_iff, decide_eq_false_iff_not]; by_cases hp : Xar p = true; exact .inr (fun e => h ⟨hp, e⟩); exact .inl (by simpa using hp))])]
      rw [if_neg]
      simp only [Xe8, Bool.and_eq_true, decide_eq_true_eq]
      exact fun e => h ⟨e.1.1, e.1.2⟩
   have := key q.Held [] (-1) rfl (by omega) (by omega)
   simp only [List.length_nil] at this
   rw [show (((-1 : Int), (0 : Int))) = ((-1), ((0 : Nat) : Int)) from rfl, this, Xaj]
   by_cases h2 : Xe8 q.Next (-1) q.Held = true
   ·
    rw [if_pos h2, h2, Bool.true_and]
    have st : ∀ i : Nat, i < 5 → Xax q (i : Int) = sel (cnt (([q.Late, q.Far, q.Twice, q.Over, q.Lost]).getD i 0)) (some (.go ((i + 1 : Nat) : Int))) (some (.done (.ret false))) := by
     intro i hi
     unfold Xax
     simp only [List.length_cons, List.length_nil]
     rw [syA, rqA, rqA, Xb1, Xaj, Xit, wkA]
     rfl
    have e5 : loop (Xax q) ((5 : Nat) : Int) = some (.out ()) := Xm2 (by unfold Xax; rw [Xd8 (by simp)])
    have go : ∀ i : Nat, i < 5 → loop (Xax q) (i : Int) = sel (cnt (([q.Late, q.Far, q.Twice, q.Over, q.Lost]).getD i 0)) (loop (Xax q) ((i + 1 : Nat) : Int)) (some (.ret false)) := by
     intro i hi
     have := st i hi
     cases h : cnt (([q.Late, q.Far, q.Twice, q.Over, q.Lost]).getD i 0) with
     | true => rw [h] at this; exact Xek this
     | false => rw [h] at this; exact Xbw this
    have := go 0 (by omega)
    rw [show (0 : Int) = ((0 : Nat) : Int) from rfl, this, go 1 (by omega), go 2 (by omega), go 3 (by omega), go 4 (by omega), e5]
    simp only [Xr4, List.getD_cons_zero, List.getD_cons_succ]
    cases cnt q.Late <;> cases cnt q.Far <;> cases cnt q.Twice <;> cases cnt q.Over <;> cases cnt q.Lost <;> rfl
   ·
    rw [if_neg h2]; simp only [Bool.not_eq_true] at h2; rw [h2]; rfl
  ·
   rw [Xcq (by simp; omega), decide_eq_false h1, Bool.false_and]
 ·
  rw [Xcq (by simpa using hb), if_neg hb]
  congr 1
  rw [Bool.eq_iff_iff]; simp
theorem Xlb : ∀ {l : List Packet} {n Xeb : Int}, Xe8 n Xeb l = true → ∀ p ∈ l, Xar p = true
 | [], _, _, _, p, hp => by simp at hp
 | q :: r, n, Xeb, h, p, hp => by
  rw [Xe8, Bool.and_eq_true, Bool.and_eq_true] at h
  rcases List.mem_cons.1 hp with rfl | hp
  ·
   exact h.1.1
  ·
   exact Xlb h.2 p hp
theorem Xei {q : Queue} (h : Xc4 q = true) : 0 ≤ q.Next ∧ q.Next ≤ 65535 ∧ q.Held.length ≤ 24 ∧ 0 ≤ q.Age ∧ q.Age ≤ 20 ∧ Xr4 q = true ∧ ∀ p ∈ q.Held, Xar p = true := by
 unfold Xc4 at h
 by_cases hb : q.Begun = true
 ·
  rw [if_pos hb, Bool.and_eq_true, Bool.and_eq_true, decide_eq_true_eq] at h
  exact ⟨h.1.1, h.1.2.1, h.1.2.2.2.2, h.1.2.2.1, h.1.2.2.2.1, h.2.2, Xlb h.2.1⟩
 ·
  rw [if_neg hb, decide_eq_true_eq] at h
  obtain ⟨h1, h2, h3, h4, h5, h6, h7, h8⟩ := h
  have : q.Held = [] := List.length_eq_zero_iff.1 h3
  refine ⟨by omega, by omega, by omega, by omega, by omega, ?_, by rw [this]; simp⟩
  unfold Xr4 cnt; rw [h4, h5, h6, h7, h8]; rfl
theorem Xmq {q : Queue} (h : Xr4 q = true) : cnt q.Late = true ∧ cnt q.Far = true ∧ cnt q.Twice = true ∧ cnt q.Over = true ∧ cnt q.Lost = true := by
 unfold Xr4 at h
 simp only [Bool.and_eq_true] at h
 exact ⟨h.1.1.1.1, h.1.1.1.2, h.1.1.2, h.1.2, h.2⟩
theorem Xhi (q : Queue) (h : q.Held.length ≤ 1048576) : Xcg q = some q := by
 have hm : maxLen = 9223372036854775807 := rfl
 unfold Xcg
 rw [Xdv (by simp only [List.length_nil]; omega), List.nil_append]
theorem Xks (q : Queue) (h : q.Held.length ≤ 1048576) : Xdo q = some q := by
 have hm : maxLen = 9223372036854775807 := rfl
 unfold Xdo
 rw [Xdv (by simp only [List.length_nil]; omega), List.nil_append]
def Xc9 (s : Int) (l : List Packet) : Bool := l.any fun p => p.Seq == s
theorem Xoc (q : Queue) (s : Int) (f : Int → Option (Lp Int (Ou Unit Bool))) (hl : q.Held.length ≤ 1048576)
  (h : ∀ i : Nat, i < q.Held.length → f (i : Int) = sel (((q.Held.getD i Xad).Seq) == s) (some (.done (.ret true))) (some (.go ((i + 1 : Nat) : Int)))) (h0 : f (q.Held.length : Int) = some (.done (.out ()))) :
  loop f 0 = some (if Xc9 s q.Held = true then .ret true else .out ()) := by
 have key : ∀ (r a : List Packet), q.Held = a ++ r → loop f (a.length : Int) = some (if Xc9 s r = true then .ret true else .out ()) := by
  intro r
  induction r with
  | nil => intro a ha; rw [List.append_nil] at ha; rw [ha] at h0; rw [Xbw h0]; rfl
  | cons p r ih =>
   intro a ha
   have hlen : a.length < q.Held.length := by rw [ha]; simp
   have hp : q.Held.getD a.length Xad = p := by rw [ha]; exact Xed a p _ r
   have hs := h a.length hlen
   rw [hp] at hs
   by_cases e : p.Seq = s
   ·
    rw [Xcq (by simpa using e)] at hs
    rw [Xbw hs, if_pos (by simp [Xc9, e])]
   ·
    rw [Xbk (by simpa using e)] at hs
    rw [Xek hs]
    have := ih (a ++ [p]) (by rw [ha]; simp)
    rw [List.length_append, List.length_singleton] at this
    rw [this]
    have e2 : Xc9 s (p :: r) = Xc9 s r := by simp [Xc9, e]
    rw [e2]
 exact key q.Held [] rfl
theorem Xid (q : Queue) (s : Int) : Xcw q s = some (Xc4 q && Xc9 s q.Held) := by
 unfold Xcw
 rw [Xfp, Xaj, Xit]
 cases h : Xc4 q with
 | false => rfl
 | true =>
  have hq := Xei h
  rw [Xg4, Xoc q s (Xbt q s) (by omega) (by
   intro i hi
   unfold Xbt
   rw [syA, rqA, wkA]; rfl) (by unfold Xbt; rw [snA]), Xaj]
  cases Xc9 s q.Held <;> rfl
theorem Xiy (q : Queue) (s : Int) : Xc5 q s = some (Xc4 q && Xc9 s q.Held) := by
 unfold Xc5
 rw [Xfv, Xaj, Xit]
 cases h : Xc4 q with
 | false => rfl
 | true =>
  have hq := Xei h
  rw [Xg4, Xoc q s (Xby q s) (by omega) (by
   intro i hi
   unfold Xby
   rw [syA, rqA, wkA]; rfl) (by unfold Xby; rw [snA]), Xaj]
  cases Xc9 s q.Held <;> rfl
theorem Xns {α : Type} (l : List α) (k : Nat) : (l.drop k).take (l.length - k) = l.drop k := List.take_of_length_le (by rw [List.length_drop]; omega)
theorem Xj0 (q : Queue) (h : q.Held.length ≤ 1048576) : Xbn q = some q := by
 unfold Xbn
 rw [Xhw q.Held h, Xaj]
theorem Xeq (q : Queue) (h : q.Held.length ≤ 1048600) : Xbb q q = some true := by
 unfold Xbb
 simp only [Xgg q.Held h, Xaj, bne_self_eq_false, Xkg, beq_self_eq_true, Bool.not_true]
theorem Xet (q : Queue) (k : Int) (h0 : 0 < k) (h1 : k ≤ 100000000) (hl : q.Held.length ≤ 1048600) : Xb3 q k = some (k + 4 * q.Held.length, (⟨q.Begun, q.Next, q.Age, Xg1 k q.Held, q.Late, q.Far, q.Twice, q.Over, q.Lost⟩ : Queue)) := by
 unfold Xb3
 rw [Xgk q.Held k h0 h1 hl, Xaj]
theorem Xho (q : Queue) (l : List Packet) (k : Int) (h : q.Held = Xg1 k l) (h0 : 0 < k) (h1 : k ≤ 100000000) (hl : l.length ≤ 1048600) : Xb2 q k = some (k + 4 * l.length) := by
 unfold Xb2
 rw [h, Xgi l k h0 h1 hl, Xaj, snA]
theorem Xjz (q : Queue) (h : Xl7 q) : ∃ t, Xdj q 1048576 = some t ∧ t ≤ 1048576 ∧ (0 ≤ t → q.Held.length ≤ 1048576) ∧ -1 ≤ t := by
 unfold Xl7 at h
 obtain ⟨t, e, h1, h2, h3⟩ := Xhs q.Held h.2.2.2.1.1 (fun x hx => (h.2.2.2.1.2 x hx).2.2.2) 1048576 (by omega) (by omega)
 unfold Xdj
 rw [e, Xaj, Xnh]
 split
 ·
  exact ⟨_, rfl, by omega, by omega, by omega⟩
 ·
  exact ⟨_, rfl, by omega, fun h => by have := h2 h; omega, by omega⟩
def Xre (n g : Int) (p : Packet) : List Packet → List Packet
 | [] => [p]
 | x :: r => if g < Xam n x.Seq then p :: x :: r else x :: Xre n g p r
def Xot (n g : Int) (p : Packet) : List Packet → Bool × List Packet
 | [] => (false, [])
 | x :: r => if g < Xam n x.Seq then (true, p :: x :: r) else ((Xot n g p r).1, x :: (Xot n g p r).2)
theorem Xnc (n g : Int) (p : Packet) : ∀ r : List Packet, Xre n g p r = if (Xot n g p r).1 = true then (Xot n g p r).2 else (Xot n g p r).2 ++ [p]
 | [] => rfl
 | x :: r => by
  rw [Xre, Xot]
  split
  ·
   rfl
  ·
   rw [Xnc n g p r]
   simp only
   split <;> simp
theorem Xou (n g : Int) (p : Packet) : ∀ r : List Packet, (Xot n g p r).2.length ≤ r.length + 1
 | [] => by simp [Xot]
 | x :: r => by
  rw [Xot]
  split
  ·
   simp
  ·
   have := Xou n g p r; simp; omega
theorem Xos (n g : Int) (p : Packet) : ∀ r : List Packet, (Xre n g p r).length = r.length + 1
 | [] => rfl
 | x :: r => by
  rw [Xre]
  split
  ·
   rfl
  ·
   rw [List.length_cons, Xos n g p r]; rfl
theorem Xf8 (q : Queue) (p : Packet) (hl : q.Held.length ≤ 24) : Xde q p = some (⟨q.Begun, q.Next, q.Age, Xre q.Next (Xam q.Next p.Seq) p q.Held, q.Late, q.Far, q.Twice, q.Over, q.Lost⟩ : Queue) := by
 have hm : maxLen = 9223372036854775807 := rfl
 unfold Xde
 rw [Xcl, Xaj]
 generalize hg : Xam q.Next p.Seq = g
 have step : ∀ (a : List Packet) (x : Packet) (r out : List Packet) (b : Bool), q.Held = a ++ x :: r → out.length ≤ a.length + 1 → Xa3 q p g (b, (a.length : Int), out) = some (.go (if b = true then (true, ((a.length + 1 : Nat) : Int), out ++ [x]) else if g < Xam q.Next x.Seq then (true, ((a.length + 1 : Nat) : Int), out ++ [p] ++ [x]) else (false, ((a.length + 1 : Nat) : Int), out ++ [x]))) := by
  intro a x r out b ha ho
  have hlen : a.length < q.Held.length := by rw [ha]; simp
  have hx : q.Held.getD a.length Xad = x := by rw [ha]; exact Xed a x _ r
  unfold Xa3
  simp only [Int.toNat_natCast, hx]
  rw [syA, Xdv (c := 0 ≤ (a.length : Int) ∧ _) (by omega), Xcl, Xaj, wkA]
  cases b with
  | true => rw [Xg4, Xaj, Xkg, Xaj, rqA, Xdv (by simp only [List.length_singleton]; omega)]; rfl
  | false =>
   rw [Xkg, Xaj, Xnh]
   by_cases h : g < Xam q.Next x.Seq
   ·
    rw [if_pos (show Xam q.Next x.Seq > g from h), Xdv (by simp only [List.length_singleton]; omega), Xaj, rqA, Xdv (by simp only [List.length_append, List.length_singleton]; omega), if_neg (by decide), if_pos h]; rfl
   ·
    rw [if_neg (show ¬ Xam q.Next x.Seq > g from h), Xaj, rqA, Xdv (by simp only [List.length_singleton]; omega), if_neg (by decide), if_neg h]; rfl
 have fin : ∀ (b : Bool) (out : List Packet), Xa3 q p g (b, (q.Held.length : Int), out) = some (.done (b, out)) := by
  intro b out; unfold Xa3; simp only; rw [snA]
 have key1 : ∀ (r a out : List Packet), q.Held = a ++ r → out.length ≤ a.length + 1 → loop (Xa3 q p g) (true, (a.length : Int), out) = some (true, out ++ r) := by
  intro r
  induction r with
  | nil => intro a out ha _; rw [List.append_nil] at ha; rw [← ha, Xbw (fin _ _), List.append_nil]
  | cons x r ih =>
   intro a out ha ho
   rw [Xek (step a x r out true ha ho), if_pos rfl]
   have := ih (a ++ [x]) (out ++ [x]) (by rw [ha]; simp) (by simp; omega)
   rw [List.length_append, List.length_singleton] at this
   rw [this]; simp
 have key : ∀ (r a out : List Packet), q.Held = a ++ r → out.length ≤ a.length → loop (Xa3 q p g) (false, (a.length : Int), out) = some ((Xot q.Next g p r).1, out ++ (Xot q.Next g p r).2) := by
  intro r
  induction r with
  | nil => intro a out ha _; rw [List.append_nil] at ha; rw [← ha, Xbw (fin _ _)]; simp [Xot]
  | cons x r ih =>
   intro a out ha ho
   rw [Xek (step a x r out false ha (by omega)), if_neg (by decide), Xot]
   by_cases h : g < Xam q.Next x.Seq
   ·
    rw [if_pos h, if_pos h]
    have := key1 r (a ++ [x]) (out ++ [p] ++ [x]) (by rw [ha]; simp) (by simp; omega)
    rw [List.length_append, List.length_singleton] at this
    rw [this]; simp
   ·
    rw [if_neg h, if_neg h]
    have := ih (a ++ [x]) (out ++ [x]) (by rw [ha]; simp) (by simp; omega)
    rw [List.length_append, List.length_singleton] at this
    rw [this]; simp
 have := key q.Held [] [] rfl (by simp)
 simp only [List.length_nil, List.nil_append] at this
 rw [show (((false : Bool), (0 : Int), ([] : List Packet))) = (false, ((0 : Nat) : Int), []) from rfl, this, Xaj, Xnc]
 have hlen := Xou q.Next g p q.Held
 cases h : (Xot q.Next g p q.Held).1 with
 | true => rfl
 | false =>
  simp only [Bool.not_false, Xg4]
  rw [Xdv (by simp only [List.length_singleton]; omega)]
  rfl
def Xib (n g : Int) : List Packet → Nat
 | [] => 0
 | x :: r => if Xam n x.Seq < g then Xib n g r + 1 else 0
theorem Xod (n g : Int) : ∀ r : List Packet, Xib n g r ≤ r.length
 | [] => by simp [Xib]
 | x :: r => by
  rw [Xib]; have := Xod n g r
  split
  ·
   simp; omega
  ·
   omega
theorem Xov (n g : Int) (p : Packet) : ∀ r : List Packet, (∀ x ∈ r, Xam n x.Seq ≠ g) → Xre n g p r = r.take (Xib n g r) ++ [p] ++ r.drop (Xib n g r)
 | [], _ => rfl
 | x :: r, h => by
  have h1 := h x (by simp)
  rw [Xre, Xib]
  by_cases e : Xam n x.Seq < g
  ·
   rw [if_pos e, if_neg (by omega), Xov n g p r (fun y hy => h y (by simp [hy]))]
   simp
  ·
   rw [if_neg e, if_pos (by omega)]; rfl
theorem Xmz (q : Queue) (p : Packet) (hl : q.Held.length ≤ 24) : Xas q p = some (⟨q.Begun, q.Next, q.Age, q.Held.take (Xib q.Next (Xam q.Next p.Seq) q.Held) ++ [p] ++ q.Held.drop (Xib q.Next (Xam q.Next p.Seq) q.Held), q.Late, q.Far, q.Twice, q.Over, q.Lost⟩ : Queue) := by
 have hm : maxLen = 9223372036854775807 := rfl
 unfold Xas
 generalize hg : Xam q.Next p.Seq = g
 have key : ∀ (r a : List Packet), q.Held = a ++ r → loop (Xaq q p) (a.length : Int) = some ((a.length + Xib q.Next g r : Nat) : Int) := by
  intro r
  induction r with
  | nil =>
   intro a ha
   rw [List.append_nil] at ha
   refine Xm2 ?_
   unfold Xaq
   rw [Xd8 (by rw [ha]; omega), Xaj, Xkg]; rfl
  | cons x r ih =>
   intro a ha
   have hlen : a.length < q.Held.length := by rw [ha]; simp
   have hx : q.Held.getD a.length Xad = x := by rw [ha]; exact Xed a x _ r
   have hstep : Xaq q p (a.length : Int) = sel (decide (Xam q.Next x.Seq < g)) (some (.go ((a.length + 1 : Nat) : Int))) (some (.done (a.length : Int))) := by
    unfold Xaq
    simp only [Int.toNat_natCast, hx]
    rw [syA, rqA, rqA, Xcf, Xaj, Xcf, Xaj, Xaj, hg, wkA]
    rfl
   rw [Xib]
   by_cases e : Xam q.Next x.Seq < g
   ·
    rw [Xd9 e] at hstep
    have := ih (a ++ [x]) (by rw [ha]; simp)
    rw [List.length_append, List.length_singleton] at this
    rw [Xek hstep, this, if_pos e]
    congr 2
    omega
   ·
    rw [Xd8 e] at hstep
    rw [Xbw hstep, if_neg e]; rfl
 have := key q.Held [] rfl
 simp only [List.length_nil, Nat.zero_add] at this
 rw [show (0 : Int) = ((0 : Nat) : Int) from rfl, this, Xaj]
 have hn := Xod q.Next g q.Held
 generalize Xib q.Next g q.Held = k at hn ⊢
 simp only [Int.toNat_natCast, List.drop_zero, List.length_nil, List.nil_append, Nat.zero_add, Nat.sub_zero, Xns]
 rw [rqA, Xdv (by simp only [List.length_take]; omega), Xdv (by simp only [List.length_take, List.length_singleton]; omega), rqA, Xdv (by simp only [List.length_take, List.length_append, List.length_drop, List.length_singleton]; omega)]
noncomputable def Xec (q : Queue) : Int := (loop (Xap q) 0).getD 0
theorem Xle (q : Queue) (h0 : 0 < q.Held.length) (hl : q.Held.length ≤ 24) : loop (Xap q) 0 = some (Xec q) ∧ 0 ≤ Xec q ∧ Xec q < q.Held.length := by
 obtain ⟨o, h, h1, h2⟩ := Xop (f := Xap q) (fun v => 0 ≤ v ∧ v < q.Held.length) (fun v => q.Held.length - v.toNat) (fun _ o => 0 ≤ o ∧ o < q.Held.length) (by
  intro v ⟨h1, h2⟩
  unfold Xap
  rw [wkA]
  by_cases hv : v < (q.Held.length : Int) - 1
  ·
   rw [Xd9 hv, rqA, Xaj, Xit, wkA]
   cases (q.Held.getD v.toNat Xad).Last with
   | true => exact .inl ⟨_, rfl, h1, h2⟩
   | false => exact .inr ⟨_, rfl, by omega, by omega, fun _ h => h⟩
  ·
   rw [Xd8 hv, Xaj, Xkg]
   exact .inl ⟨_, rfl, h1, h2⟩) 0 (by omega)
 unfold Xec; rw [h]; exact ⟨rfl, h1, h2⟩
theorem Xog (q : Queue) (h0 : 0 < q.Held.length) (hl : q.Held.length ≤ 24) : 0 ≤ Xec q ∧ Xec q < q.Held.length := (Xle q h0 hl).2
theorem Xlf (q : Queue) (h0 : 0 < q.Held.length) (hl : q.Held.length ≤ 24) : loop (Xap q) 0 = some (Xec q) := (Xle q h0 hl).1
theorem Xo9 (q : Queue) (h0 : 0 < q.Held.length) (hl : q.Held.length ≤ 24) : loop (Xb6 q) 0 = some (Xec q) ∧ 0 ≤ Xec q ∧ Xec q < q.Held.length := by
 refine ⟨?_, Xog q h0 hl⟩
 rw [← Xlf q h0 hl]
 have : Xap q = Xb6 q := by
  funext v
  unfold Xap Xb6
  congr 1
  by_cases h : v < Xak .i64 ((q.Held.length : Int) - 1)
  ·
   rw [Xd9 h, Xd9 h]
   by_cases h2 : 0 ≤ v ∧ v < q.Held.length
   ·
    rw [Xdv h2, Xdv h2, rqA]
   ·
    unfold req; rw [if_neg h2, if_neg h2]
  ·
   rw [Xd8 h, Xd8 h]
 rw [this]
def Xst (q : Queue) (p : Packet) : Queue := ⟨q.Begun, q.Next, q.Age, Xre q.Next (Xam q.Next p.Seq) p q.Held, q.Late, q.Far, q.Twice, q.Over, q.Lost⟩
noncomputable def Xky (q : Queue) : Queue := ⟨q.Begun, Xdw (q.Held.getD (Xec q).toNat Xad).Seq 1, 0, q.Held.drop ((Xec q).toNat + 1), q.Late, q.Far, q.Twice, Xq0 q.Over, q.Lost⟩
noncomputable def qin (q : Queue) (p : Packet) : Queue × Int :=
 if Xc4 q = true then
  if Xar p = true then
   if q.Begun = true then
    if Xam q.Next p.Seq ≥ 40 ∨ Xam q.Next p.Seq < -40 then (⟨q.Begun, p.Seq, 0, [p], q.Late, Xq0 q.Far, q.Twice, q.Over, q.Lost⟩, 4)
    else if Xam q.Next p.Seq < 0 then (⟨q.Begun, q.Next, q.Age, q.Held, Xq0 q.Late, q.Far, q.Twice, q.Over, q.Lost⟩, 3)
    else if Xc9 p.Seq q.Held = true then (⟨q.Begun, q.Next, q.Age, q.Held, q.Late, q.Far, Xq0 q.Twice, q.Over, q.Lost⟩, 5)
    else if q.Held.length < 24 then (Xst q p, 0)
    else (if 0 ≤ Xam (Xky q).Next p.Seq ∧ Xam (Xky q).Next p.Seq ≤ 39 then Xst (Xky q) p else Xky q, 6)
   else (⟨true, p.Seq, 0, [p], 0, 0, 0, 0, 0⟩, 0)
  else (q, 2)
 else (q, 1)
theorem Xkm (q : Queue) (p : Packet) (hl : q.Held.length ≤ 1048576) : Xdm q p = some (qin q p) := by
 have hm : maxLen = 9223372036854775807 := rfl
 unfold Xdm qin
 rw [Xks q hl, Xaj, Xfv, Xaj, Xit]
 cases hok : Xc4 q with
 | false => rfl
 | true =>
  have hq := Xei hok
  have hc := Xmq hq.2.2.2.2.2.1
  rw [Xg4, if_pos rfl, Xfg, Xaj, Xit]
  cases hpk : Xar p with
  | false => rfl
  | true =>
   rw [Xg4, if_pos rfl, Xit]
   cases hb : q.Begun with
   | false => rfl
   | true =>
    rw [Xg4, if_pos rfl, Xcl, Xaj, Xo0, Xaj]
    generalize hg : Xam q.Next p.Seq = g
    by_cases h1 : g ≥ 40 ∨ g < -40
    ·
     rw [if_pos h1, Xcq (by simpa using h1), Xc7 _ hc.2.1, Xaj]
    rw [if_neg h1, Xbk (by simp; omega)]
    by_cases h2 : g < 0
    ·
     rw [if_pos h2, Xd9 h2, Xc7 _ hc.1, Xaj]
    rw [if_neg h2, Xd8 h2, Xiy, Xaj, hok, Bool.true_and]
    cases h3 : Xc9 p.Seq q.Held with
    | true => rw [Xg4, if_pos rfl, Xc7 _ hc.2.2.1, Xaj]
    | false =>
     rw [Xkg, if_neg (by decide)]
     by_cases h4 : q.Held.length < 24
     ·
      rw [if_pos h4, syA, Xf8 q p hq.2.2.1, Xaj]; unfold Xst; rw [hb]
     rw [if_neg h4, snA]
     obtain ⟨l1, l2, l3⟩ := Xo9 q (by omega) hq.2.2.1
     rw [l1, Xaj, Xc7 _ hc.2.2.2.1, Xaj, rqA, rqA, Xkq, Xaj, wkA, rqA, Int.toNat_natCast, show (Xec q + 1).toNat = (Xec q).toNat + 1 by omega, Xns]
     rw [Xdv (by simp only [List.length_nil, List.length_drop]; omega), Xcl, Xaj, Xca, Xaj, List.nil_append, Xnh]
     have hcut : (⟨true, Xdw (q.Held.getD (Xec q).toNat Xad).Seq 1, 0, q.Held.drop ((Xec q).toNat + 1), q.Late, q.Far, q.Twice, Xq0 q.Over, q.Lost⟩ : Queue) = Xky q := by unfold Xky; rw [hb]
     rw [hcut]
     have hn : Xdw (q.Held.getD (Xec q).toNat Xad).Seq 1 = (Xky q).Next := rfl
     rw [hn]
     by_cases h5 : 0 ≤ Xam (Xky q).Next p.Seq ∧ Xam (Xky q).Next p.Seq ≤ 39
     ·
      rw [if_pos h5, if_pos h5, Xf8 (Xky q) p (by unfold Xky; simp only [List.length_drop]; omega), Xaj, Xaj]; rfl
     ·
      rw [if_neg h5, if_neg h5, Xaj]; unfold Xky; rw [hb]
theorem Xpg {n a b : Int} (hn : 0 ≤ n ∧ n ≤ 65535) (ha : 0 ≤ a ∧ a ≤ 65535) (hb : 0 ≤ b ∧ b ≤ 65535) (h : Xam n a = Xam n b) : a = b := by
 unfold Xam at h
 rw [if_pos (show 0 ≤ n ∧ n ≤ 65535 ∧ 0 ≤ a ∧ a ≤ 65535 by omega), if_pos (show 0 ≤ n ∧ n ≤ 65535 ∧ 0 ≤ b ∧ b ≤ 65535 by omega)] at h
 repeat' split at h
 all_goals omega
theorem Xph (a b : Int) : 0 ≤ Xdw a b ∧ Xdw a b ≤ 65535 := by
 unfold Xdw; split <;> omega
theorem Xoe (q : Queue) (p : Packet) (hl : q.Held.length ≤ 24) (hn : 0 ≤ q.Next ∧ q.Next ≤ 65535) (hh : ∀ x ∈ q.Held, Xar x = true) (hp : Xar p = true) (hs : Xc9 p.Seq q.Held = false) : Xas q p = some (Xst q p) := by
 rw [Xmz q p hl]
 unfold Xst
 rw [Xov]
 intro x hx e
 have h1 := (Xh9 x).1 (hh x hx)
 have h2 := (Xh9 p).1 hp
 have := Xpg hn (by omega) (by omega) e
 have : Xc9 p.Seq q.Held = true := by
  unfold Xc9; rw [List.any_eq_true]; exact ⟨x, hx, by simpa using this⟩
 rw [hs] at this; cases this
theorem Xjr (q : Queue) (p : Packet) (hl : q.Held.length ≤ 1048576) : Xcr q p = some (qin q p) := by
 have hm : maxLen = 9223372036854775807 := rfl
 unfold Xcr qin
 rw [Xhi q hl, Xaj, Xfp, Xaj, Xit]
 cases hok : Xc4 q with
 | false => rfl
 | true =>
  have hq := Xei hok
  have hc := Xmq hq.2.2.2.2.2.1
  rw [Xg4, if_pos rfl, Xfa, Xaj, Xit]
  cases hpk : Xar p with
  | false => rfl
  | true =>
   rw [Xg4, if_pos rfl, Xit]
   cases hb : q.Begun with
   | false =>
    unfold Xc4 at hok
    rw [if_neg (by simp [hb]), decide_eq_true_eq] at hok
    obtain ⟨z1, z2, z3, z4, z5, z6, z7, z8⟩ := hok
    rw [Xkg, if_neg (by decide), z2, z4, z5, z6, z7, z8]
   | true =>
    rw [Xg4, if_pos rfl, Xcf, Xaj, Xo0, Xaj]
    generalize hg : Xam q.Next p.Seq = g
    by_cases h1 : g ≥ 40 ∨ g < -40
    ·
     rw [if_pos h1, Xcq (by simpa using h1), Xcy _ hc.2.1, Xaj]
    rw [if_neg h1, Xbk (by simp; omega)]
    by_cases h2 : g < 0
    ·
     rw [if_pos h2, Xd9 h2, Xcy _ hc.1, Xaj]
    rw [if_neg h2, Xd8 h2, Xid, Xaj, hok, Bool.true_and]
    cases h3 : Xc9 p.Seq q.Held with
    | true => rw [Xg4, if_pos rfl, Xcy _ hc.2.2.1, Xaj]
    | false =>
     rw [Xkg, if_neg (by decide)]
     by_cases h4 : q.Held.length < 24
     ·
      rw [if_pos h4, Xbk (by simp; omega), Xoe q p hq.2.2.1 (by omega) hq.2.2.2.2.2.2 hpk h3, Xaj]
     rw [if_neg h4, Xcq (by simp; omega)]
     obtain ⟨l2, l3⟩ := Xog q (by omega) hq.2.2.1
     rw [Xcy _ hc.2.2.2.1, Xaj, Xlf q (by omega) hq.2.2.1, Xaj, rqA, Xjv, Xaj, wkA, rqA, Int.toNat_natCast, show (Xec q + 1).toNat = (Xec q).toNat + 1 by omega, Xns]
     rw [Xcf, Xaj, Xb1, Xaj, Xnh]
     have hcut : (⟨true, Xdw (q.Held.getD (Xec q).toNat Xad).Seq 1, 0, q.Held.drop ((Xec q).toNat + 1), q.Late, q.Far, q.Twice, Xq0 q.Over, q.Lost⟩ : Queue) = Xky q := by unfold Xky; rw [hb]
     rw [hcut]
     have hn : Xdw (q.Held.getD (Xec q).toNat Xad).Seq 1 = (Xky q).Next := rfl
     rw [hn]
     by_cases h5 : 0 ≤ Xam (Xky q).Next p.Seq ∧ Xam (Xky q).Next p.Seq ≤ 39
     ·
      have hs : Xc9 p.Seq (Xky q).Held = false := by
       rw [Bool.eq_false_iff] at h3 ⊢
       intro e; apply h3
       unfold Xc9 at e ⊢
       rw [List.any_eq_true] at e ⊢
       obtain ⟨x, hx, e⟩ := e
       exact ⟨x, List.mem_of_mem_drop hx, e⟩
      rw [if_pos h5, if_pos h5, Xoe (Xky q) p (by unfold Xky; simp only [List.length_drop]; omega) (Xph _ _) (fun x hx => hq.2.2.2.2.2.2 x (List.mem_of_mem_drop hx)) hpk hs, Xaj, Xaj]
     ·
      rw [if_neg h5, if_neg h5, Xaj]; unfold Xky; rw [hb]
theorem Xsc (q : Queue) (p : Packet) (hl : q.Held.length ≤ 1048576) : (qin q p).1.Held.length ≤ 1048577 := by
 unfold qin Xst Xky
 repeat' split
 all_goals (simp only [Xos, List.length_drop, List.length_cons, List.length_nil]; omega)
theorem FnExactQueueIn {p0 : Queue} {p1 : Packet} (h0 : Xl7 p0) (h1 : Xl6 p1) : Xbq p0 p1 = some true := by
 unfold Xbq
 obtain ⟨t, e, a1, a2, a3⟩ := Xjz p0 h0
 rw [e, Xaj]
 by_cases ht : t < 0
 ·
  rw [Xd9 ht]
 rw [Xd8 ht]
 have hl := a2 (by omega)
 rw [Xfe p1 t (by omega) (by omega) h1.2.2.2, Xaj]
 by_cases ht2 : (if t < p1.Bytes.size then (-1 : Int) else t - p1.Bytes.size) < 0
 ·
  rw [Xd9 ht2]
 rw [Xd8 ht2]
 have hq := Xsc p0 p1 hl
 simp only [Xj0 p0 hl, Xbd, Xaj, Xkm p0 p1 hl, Xjr p0 p1 hl]
 generalize hg : qin p0 p1 = g at hq ⊢
 obtain ⟨g0, g2⟩ := g
 simp only at hq ⊢
 have hself : Xbb g0 g0 = some true := Xeq g0 (Nat.le_trans hq (by decide))
 simp only [hself, Xaj, Xg4, bne_self_eq_false, Xkg, Xeq p0 (Nat.le_trans hl (by decide)), Xit, Xet p0 1 (by omega) (by omega) (by omega), Xet g0 1 (by omega) (by omega) (by omega)]
 rw [snA, Xaj, Xkg, Xho _ g0.Held 1 rfl (by omega) (by omega) (by omega), Xaj, snA]
 simp only [bne_self_eq_false, Xkg, Xaj]
 rw [snA]
end Go.Proofs.Ytlebkepfhdjnmaa.A.Pure
