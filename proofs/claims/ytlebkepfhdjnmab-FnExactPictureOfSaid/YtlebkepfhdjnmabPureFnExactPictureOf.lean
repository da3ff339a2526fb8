/- The pure statement of the law FnExactPictureOf: over numbers, texts and lists alone, what the law computes is true. Conditions: the sizes of what a machine holds. -/
import Derived.Test.YtlebkepfhdjnmabDFnExactPictureOf
namespace Go.Proofs.Ytlebkepfhdjnmab.A.Pure
open Go Go.Proofs Go.Proofs.YtlebkepfhdjnmabAL Go.RowKit
set_option linter.unusedVariables false
set_option linter.unusedSimpArgs false
set_option maxHeartbeats 1000000
theorem Xam {α β : Type} (a : α) (f : α → Option β) : bnd (some a) f = f a := rfl
theorem Xkw {α β : Type} {x : Option α} {a : α} {f : α → Option β} (h : x = some a) : bnd x f = f a := by subst h; rfl
theorem Xe5 {β : Type} (x y : β) : sel true x y = x := rfl
theorem Xgx {β : Type} (x y : β) : sel false x y = y := rfl
theorem Xso {β : Type} (b : Bool) (x y : β) : sel (!b) x y = sel b y x := by cases b <;> rfl
theorem Xe2 (b x : Bool) : sel b (some x) (some false) = some (b && x) := by cases b <;> rfl
theorem Xrk (b x : Bool) : sel b (some x) (some true) = some (!b || x) := by cases b <;> rfl
theorem Xsp (b x : Bool) : sel b (some false) (some x) = some (!b && x) := by cases b <;> rfl
theorem Xuu {β : Type} (p : Prop) [Decidable p] (x y : β) : sel (decide p) x y = if p then x else y := by
 by_cases h : p <;> simp [h, sel]
theorem Xck {β : Type} {b : Bool} {x y : β} (h : b = true) : sel b x y = x := by subst h; rfl
theorem Xbb {β : Type} {b : Bool} {x y : β} (h : b = false) : sel b x y = y := by subst h; rfl
theorem Xbq {β : Type} {p : Prop} [Decidable p] {x y : β} (h : p) : sel (decide p) x y = x := by simp [h, sel]
theorem Xbf {β : Type} {p : Prop} [Decidable p] {x y : β} (h : ¬ p) : sel (decide p) x y = y := by simp [h, sel]
theorem Xdi {β : Type} {c : Prop} [Decidable c] {k : Option β} (h : c) : req c k = k := if_pos h
theorem wk {e : Int} (h1 : -9223372036854775808 ≤ e) (h2 : e ≤ 9223372036854775807) : Xah .i64 e = e := by
 show wrap64 e = e
 unfold wrap64; omega
theorem rqA {β : Type} {c : Prop} [Decidable c] {k : Option β} (h : c := by omega) : req c k = k := Xdi h
theorem syA {β : Type} {c : Prop} [Decidable c] {x y : β} (h : c := by omega) : sel (decide c) x y = x := Xbq h
theorem snA {β : Type} {c : Prop} [Decidable c] {x y : β} (h : ¬ c := by omega) : sel (decide c) x y = y := Xbf h
theorem wkA {e : Int} (h1 : -9223372036854775808 ≤ e := by omega) (h2 : e ≤ 9223372036854775807 := by omega) : Xah .i64 e = e := wk h1 h2
theorem Xjc {a b : Int} (h : 0 ≤ a) : Int.tmod a b = a % b := Int.tmod_eq_emod_of_nonneg h
theorem Xpl {a b : Int} (h : 0 ≤ a) : Int.tdiv a b = a / b := Int.tdiv_eq_ediv_of_nonneg h
theorem Xdc {P : Nat → Prop} (n : Nat) (h0 : P n) (hs : ∀ i, i < n → P (i + 1) → P i) : ∀ i, i ≤ n → P i := by
 intro i hi
 obtain ⟨k, rfl⟩ : ∃ k, n = i + k := ⟨n - i, by omega⟩
 clear hi
 induction k generalizing i with
 | zero => exact h0
 | succ k ih =>
  refine hs i (by omega) ?_
  exact ih (i + 1) (by rw [show i + 1 + k = i + (k + 1) by omega]; exact h0) (fun j hj => hs j (by omega))
theorem lgo {V O : Type} {f : V → Option (Lp V O)} {x y : V} {r : Option O} (h : f x = some (.go y)) (k : loop f y = r) : loop f x = r := by rw [Xj1 h]; exact k
theorem Xdy {V O : Type} {f : V → Option (Lp V O)} {x : V} {o : O} (h : f x = some (.done o)) : loop f x = some o := Xet h
theorem Xo7 {V O : Type} {f : V → Option (Lp V O)} (I : V → Prop) (m : V → Nat) (Q : V → O → Prop) (h : ∀ v, I v → (∃ o, f v = some (.done o) ∧ Q v o) ∨ ∃ v', f v = some (.go v') ∧ I v' ∧ m v' < m v ∧ ∀ o, Q v' o → Q v o) : ∀ v, I v → ∃ o, loop f v = some o ∧ Q v o := by
 intro v
 generalize hn : m v = n
 induction n using Nat.strongRecOn generalizing v with
 | _ n ih =>
  intro hv
  rcases h v hv with ⟨o, h1, h2⟩ | ⟨v', h1, h2, h3, h4⟩
  ·
   exact ⟨o, Xet h1, h2⟩
  ·
   obtain ⟨o, h5, h6⟩ := ih (m v') (by omega) v' rfl h2
   exact ⟨o, by rw [Xj1 h1]; exact h5, h4 o h6⟩
theorem Xqu {α : Type} (l : List α) (i : Nat) (h : i < l.length) (d : α) : l.getD i d = l[i] := by
 simp [List.getD_eq_getElem?_getD, List.getElem?_eq_getElem h]
theorem Xef (a b c : Int) : Xch a b c = some (decide (b ≤ a ∧ a ≤ c)) := by
 unfold Xch
 by_cases h : b ≤ a <;> simp [bnd, sel, h]
theorem Xe3 (a b c : Int) : Xb7 a b c = some (decide (b ≤ a ∧ a ≤ c)) := by
 unfold Xb7
 by_cases h : b ≤ a <;> simp [bnd, sel, h]
theorem Xe4 (a : Int) : Xbs a = some (decide (0 ≤ a ∧ a ≤ 65535)) := by
 unfold Xbs; rw [Xef]; rfl
theorem Xof {α : Type} (a : List α) (x y : α) (b : List α) : (a ++ x :: b).set a.length y = a ++ y :: b := by
 induction a with
 | nil => rfl
 | cons z a ih => simp only [List.cons_append, List.length_cons, List.set_cons_succ, ih]
theorem Xl0 {α : Type} (a : List α) (x d : α) (b : List α) : (a ++ x :: b).getD a.length d = x := by
 induction a with
 | nil => rfl
 | cons z a ih => simp
theorem Xqs {α β : Type} (l : List α) (g : α → β) (d : α) (e : β) {f : (Int × List β) → Option (Lp (Int × List β) (List β))}
  (h : ∀ (i : Nat) (o : List β), i < l.length → o.length = l.length → f ((i : Int), o) = some (.go (((i + 1 : Nat) : Int), o.set i (g (l.getD i d))))) (h0 : ∀ o, f ((l.length : Int), o) = some (.done o)) : loop f (0, List.replicate l.length e) = some (l.map g) := by
 have key : ∀ (r a : List α), l = a ++ r → loop f ((a.length : Int), a.map g ++ List.replicate r.length e) = some (l.map g) := by
  intro r
  induction r with
  | nil =>
   intro a ha
   rw [List.append_nil] at ha
   subst ha
   rw [Xet (h0 _)]; simp
  | cons x r ih =>
   intro a ha
   have hlen : a.length < l.length := by rw [ha]; simp
   rw [Xj1 (h a.length _ hlen (by rw [ha]; simp))]
   have e1 : l.getD a.length d = x := by rw [ha]; exact Xl0 a x d r
   have e2 : (a.map g ++ List.replicate (x :: r).length e).set a.length (g x) = (a ++ [x]).map g ++ List.replicate r.length e := by
    have := Xof (a.map g) e (g x) (List.replicate r.length e)
    rw [List.length_map] at this
    rw [List.length_cons, List.replicate_succ, this]
    simp
   rw [e1, e2]
   have := ih (a ++ [x]) (by rw [ha]; simp)
   rw [List.length_append, List.length_singleton] at this
   exact this
 exact key l [] rfl
theorem Xnq {f : Int → Option (Lp Int (Ou Unit Bool))} (n : Nat) (h : ∀ i : Nat, i < n → f i = some (.go ((i + 1 : Nat) : Int))) (h0 : f n = some (.done (.out ()))) : loop f 0 = some (.out ()) :=
 Xdc (P := fun i => loop f (i : Int) = some (.out ())) n (Xet h0) (fun i hi ih => by rw [Xj1 (h i hi)]; exact ih) 0 (by omega)
theorem Xt3 {f : (Int × Int) → Option (Lp (Int × Int) (Ou Int Int))} (n : Nat) (B : Int) (h : ∀ (i : Nat) (m : Int), i < n → 0 ≤ m → m ≤ B → f (m, (i : Int)) = some (.done (.ret (-1))) ∨ ∃ m', f (m, (i : Int)) = some (.go (m', ((i + 1 : Nat) : Int))) ∧ 0 ≤ m' ∧ m' ≤ m)
  (h0 : ∀ m, f (m, (n : Int)) = some (.done (.out m))) (m : Int) (hm : 0 ≤ m) (hB : m ≤ B) : loop f (m, 0) = some (.ret (-1)) ∨ ∃ t, loop f (m, 0) = some (.out t) ∧ 0 ≤ t ∧ t ≤ m := by
 refine Xdc (P := fun i => ∀ m : Int, 0 ≤ m → m ≤ B → loop f (m, (i : Int)) = some (.ret (-1)) ∨ ∃ t, loop f (m, (i : Int)) = some (.out t) ∧ 0 ≤ t ∧ t ≤ m) n ?_ ?_ 0 (by omega) m hm hB
 ·
  intro m h1 h2; exact .inr ⟨m, Xet (h0 m), h1, Int.le_refl _⟩
 ·
  intro i hi ih m h1 h2
  rcases h i m hi h1 h2 with e | ⟨m', e, h3, h4⟩
  ·
   exact .inl (Xet e)
  ·
   rw [Xj1 e]
   rcases ih m' h3 (by omega) with e | ⟨t, e, h5, h6⟩
   ·
    exact .inl e
   ·
    exact .inr ⟨t, e, h5, by omega⟩
theorem Xg2 (n : Int) : (strOfNums [n]).size = 1 := rfl
theorem Xiq (k : Int) (h0 : 0 < k) (h1 : k ≤ 1000000000000) : ∃ s, Xaz k = some s := by
 unfold Xaz
 rw [snA]
 obtain ⟨o, h, h2⟩ := Xo7 (f := Xcg) (fun v => 0 ≤ v.1 ∧ v.1 + v.2.size ≤ 1000000000000) (fun v => v.1.toNat) (fun _ o => o.size ≤ 1000000000000) (by
  intro ⟨n, s⟩ ⟨a, b⟩
  unfold Xcg
  simp only at a b ⊢
  by_cases h : n > 0
  ·
   rw [Xbq h, Xdi (by decide), Xg2, rqA, Xdi (by decide), Xpl a]
   refine .inr ⟨_, rfl, ?_, ?_, fun _ h => h⟩
   ·
    simp only [ByteArray.size_append, Xg2]
    rw [wkA]; omega
   ·
    simp only
    rw [wkA]; omega
  ·
   rw [Xbf h]
   exact .inl ⟨_, rfl, by omega⟩) (k, ⟨#[]⟩) ⟨by simp only; omega, by simp only [show (⟨#[]⟩ : ByteArray).size = 0 from rfl]; omega⟩
 rw [h, Xam, Xdi (by simp only [show (⟨#[109]⟩ : ByteArray).size = 1 from rfl]; omega)]
 exact ⟨_, rfl⟩
noncomputable def mT (k : Int) : ByteArray := (Xaz k).getD ⟨#[]⟩
theorem Xdf (k : Int) (h0 : 0 < k) (h1 : k ≤ 1000000000000) : Xaz k = some (mT k) := by
 obtain ⟨s, h⟩ := Xiq k h0 h1
 unfold mT; rw [h]; rfl
theorem Xis (p : Packet) (m : Int) (h0 : 0 ≤ m) (h1 : m ≤ 1048576) (hs : p.Bytes.size ≤ maxLen) : Xcs p m = some (if m < p.Bytes.size then -1 else m - p.Bytes.size) := by
 have hm : maxLen = 9223372036854775807 := rfl
 unfold Xcs
 rw [wkA, Xuu]
 by_cases h : m < p.Bytes.size
 ·
  rw [if_pos h, if_pos (by omega)]
 ·
  rw [if_neg h, if_neg (by omega)]
theorem Xht (l : List Packet) (hl : l.length ≤ maxLen) (hs : ∀ x ∈ l, x.Bytes.size ≤ maxLen) (m : Int) (h0 : 0 ≤ m) (h1 : m ≤ 1048576) : ∃ t, Xce l m = some t ∧ t ≤ m ∧ (0 ≤ t → l.length ≤ m) ∧ -1 ≤ t := by
 have hm : maxLen = 9223372036854775807 := rfl
 unfold Xce
 rw [wkA]
 by_cases h : m - l.length < 0
 ·
  rw [Xbq h]; exact ⟨_, rfl, by omega, by omega, by omega⟩
 ·
  rw [Xbf h]
  rcases Xt3 (f := Xbo l) l.length 1048576 (by
   intro i m hi h0 h1
   unfold Xbo
   simp only
   rw [syA, rqA, Xis _ m h0 h1 (by rw [Int.toNat_natCast, Xqu l i hi]; exact hs _ (List.getElem_mem hi)), Xam]
   split
   ·
    left; rw [syA]
   ·
    right; rw [snA, wkA]; exact ⟨_, rfl, by omega, by omega⟩) (by
   intro m; unfold Xbo; simp only; rw [snA]) (m - l.length) (by omega) (by omega) with e | ⟨t, e, h2, h3⟩
  ·
   rw [e]; exact ⟨_, rfl, by omega, by omega, by omega⟩
  ·
   rw [e]; exact ⟨_, rfl, by omega, by omega, by omega⟩
theorem Xhw (l : List Packet) (hl : l.length ≤ 1048576) : Xa1 l = some l := by
 unfold Xa1
 rw [rqA, Int.toNat_natCast]
 have := Xqs l (fun p : Packet => p) Xai Xai (f := Xbp l) (by
  intro i o hi ho
  unfold Xbp
  simp only
  rw [syA, rqA, Xdr, Xam, rqA, rqA, wkA]
  rfl) (by
  intro o; unfold Xbp; simp only; rw [snA])
 rw [this, Xam, List.map_id']
theorem Xgq (p : Packet) : Xcr p p = some true := by
 unfold Xcr
 simp [sel]
theorem Xf3 (l : List Packet) (hl : l.length ≤ 1048600) : Xcd l l = some true := by
 unfold Xcd
 rw [Xbb (by simp), Xnq l.length (f := Xbm l l) (by
  intro i hi
  unfold Xbm
  rw [syA, rqA, rqA, Xgq, Xam, Xso, Xe5, wkA]
  rfl) (by unfold Xbm; rw [snA])]
 rfl
noncomputable def Xq7 (k : Int) : List Packet → List Packet
 | [] => []
 | _ :: r => ⟨k, (k + 1) % 3 == 0, (k + 2) % 3 == 0, mT (k + 3)⟩ :: Xq7 (k + 4) r
theorem Xf7 (l : List Packet) (k : Int) (h0 : 0 < k) (h1 : k ≤ 100000000) (hl : l.length ≤ 1048600) : Xbw l k = some (k + 4 * l.length, Xq7 k l) := by
 unfold Xbw
 have key : ∀ (r a : List Packet) (j : Int), 0 < j → j + 4 * r.length ≤ 200000000 → a.length + r.length ≤ 1048600 → loop Xa7 (j, (a.length : Int), a ++ r) = some (j + 4 * r.length, a ++ Xq7 j r) := by
  intro r
  induction r with
  | nil =>
   intro a j hj1 hj2 hl
   refine Xdy ?_
   unfold Xa7
   simp only [List.append_nil]
   rw [snA]
   simp [Xq7]
  | cons p r ih =>
   intro a j hj1 hj2 hl
   simp only [List.length_cons] at hj2 hl ⊢
   have hcl : ∀ x : Packet, (a ++ x :: r).length = a.length + (r.length + 1) := fun x => by simp
   refine lgo (y := (j + 4, ((a ++ [(⟨j, (j + 1) % 3 == 0, (j + 2) % 3 == 0, mT (j + 3)⟩ : Packet)]).length : Int), (a ++ [(⟨j, (j + 1) % 3 == 0, (j + 2) % 3 == 0, mT (j + 3)⟩ : Packet)]) ++ r)) ?_ ?_
   ·
    unfold Xa7
    simp only [Int.toNat_natCast, Xam, Xof, Xl0, hcl]
    rw [syA, rqA, rqA, Xdi (by decide), rqA, rqA, Xdi (by decide), rqA, rqA, wkA (e := j + 1), wkA (e := j + 1 + 1), wkA (e := j + 1 + 1 + 1), wkA (e := j + 1 + 1 + 1 + 1), Xdf _ (by omega) (by omega), Xam, rqA, rqA, wkA (e := (a.length : Int) + 1), Xjc (by omega), Xjc (by omega)]
    rw [show j + 1 + 1 + 1 + 1 = j + 4 by omega, show j + 1 + 1 + 1 = j + 3 by omega, show j + 1 + 1 = j + 2 by omega]
    simp
   ·
    rw [ih _ (j + 4) (by omega) (by omega) (by simp; omega)]
    simp only [Xq7, List.append_assoc, List.singleton_append]
    congr 2
    omega
 have := key l [] k h0 (by omega) (by simp; omega)
 simp only [List.length_nil, List.nil_append] at this
 rw [show ((k, 0, l) : Int × Int × List Packet) = (k, ((0 : Nat) : Int), l) from rfl, this]
 rfl
def Xgb (a b : Int) : Int := if 0 ≤ a ∧ a ≤ 65535 ∧ 0 ≤ b ∧ b ≤ 65535 then (a + b) % 65536 else 0
theorem Xju (a b : Int) : Xc7 a b = some (Xgb a b) := by
 unfold Xc7 Xgb
 simp only [Xe4, Xam, Xrk]
 by_cases h : 0 ≤ a ∧ a ≤ 65535 ∧ 0 ≤ b ∧ b ≤ 65535
 ·
  rw [if_pos h, Xbb (by simp; omega), Xdi (by decide), wkA, Xjc (by omega)]
 ·
  rw [if_neg h, Xck (by simp; omega)]
theorem Xkm (a b : Int) : Xc9 a b = some (Xgb a b) := by
 unfold Xc9 Xgb
 simp only [Xe3, Xam, Xrk]
 by_cases h : 0 ≤ a ∧ a ≤ 65535 ∧ 0 ≤ b ∧ b ≤ 65535
 ·
  rw [if_pos h, Xbb (by simp; omega), Xdi (by decide), wkA, Xjc (by omega)]
 ·
  rw [if_neg h, Xck (by simp; omega)]
def Xds (p : Packet) : Bool := decide (0 ≤ p.Seq ∧ p.Seq ≤ 65535 ∧ 1 ≤ p.Bytes.size ∧ p.Bytes.size ≤ 400)
theorem Xfc (p : Packet) : Xds p = true ↔ 0 ≤ p.Seq ∧ p.Seq ≤ 65535 ∧ 1 ≤ p.Bytes.size ∧ p.Bytes.size ≤ 400 := by simp [Xds]
theorem Xij (p : Packet) : Xco p = some (Xds p) := by
 unfold Xco Xds
 simp only [Xe4, Xef, Xam, Xe2]
 congr 1
 rw [Bool.eq_iff_iff]; simp; omega
theorem Xi0 (p : Packet) : Xcu p = some (Xds p) := by
 unfold Xcu Xds
 simp only [Xe3, Xam, Xe2]
 congr 1
 rw [Bool.eq_iff_iff]; simp; omega
theorem Xrl (b : ByteArray) : (b.toList == (⟨#[]⟩ : ByteArray).toList) = decide (b.size = 0) := by
 rw [ByteArray.toList_eq, ByteArray.toList_eq, Bool.eq_iff_iff]
 obtain ⟨⟨l⟩⟩ := b
 show (l == []) = true ↔ decide (l.length = 0) = true
 cases l <;> simp
def Xvf (l : List Int) : Prop := ∀ x ∈ l, 0 ≤ x ∧ x ≤ 255
theorem Xsk (l : List Int) (h : Xvf l) : Xac (strOfNums l) = l := by
 unfold Xac
 rw [strOfNums_data, List.map_map]
 have : ∀ x ∈ l, ((fun b : UInt8 => (b.toNat : Int)) ∘ fun n : Int => UInt8.ofNat n.toNat) x = x := by
  intro x hx
  have := h x hx
  simp only [Function.comp_apply, UInt8.toNat_ofNat']
  omega
 rw [List.map_congr_left this, List.map_id']
theorem Xf4 (l : List ByteArray) (hl : l.length ≤ 9223372036854775806) : Xbi l l = some true := by
 unfold Xbi
 rw [Xbb (by simp), Xnq l.length (f := Xbn l l) (by
  intro i hi
  unfold Xbn
  rw [syA, rqA, rqA, Xbb (by simp), wkA]
  rfl) (by unfold Xbn; rw [snA])]
 rfl
noncomputable def Xiv (k : Int) : List ByteArray → List ByteArray
 | [] => []
 | _ :: r => mT k :: Xiv (k + 1) r
theorem Xng : ∀ (l : List ByteArray) (k : Int), (Xiv k l).length = l.length
 | [], _ => rfl
 | _ :: r, k => by rw [Xiv, List.length_cons, List.length_cons, Xng r]
theorem Xf9 (l : List ByteArray) (k : Int) (h0 : 0 < k) (h1 : k ≤ 1000000000) (hl : l.length ≤ 100000000) : Xbx l k = some (k + l.length, Xiv k l) := by
 unfold Xbx
 have key : ∀ (r a : List ByteArray) (j : Int), 0 < j → j + r.length ≤ 2000000000 → a.length + r.length ≤ 100000000 → loop Xa8 (j, (a.length : Int), a ++ r) = some (j + r.length, a ++ Xiv j r) := by
  intro r
  induction r with
  | nil =>
   intro a j hj1 hj2 hl
   refine Xdy ?_
   unfold Xa8
   simp only [List.append_nil]
   rw [snA]
   simp [Xiv]
  | cons p r ih =>
   intro a j hj1 hj2 hl
   simp only [List.length_cons] at hj2 hl ⊢
   have hcl : ∀ x : ByteArray, (a ++ x :: r).length = a.length + (r.length + 1) := fun x => by simp
   refine lgo (y := (j + 1, ((a ++ [mT j]).length : Int), (a ++ [mT j]) ++ r)) ?_ ?_
   ·
    unfold Xa8
    simp only [Int.toNat_natCast, Xof, hcl]
    rw [syA, Xdf _ hj1 (by omega), Xam, rqA, rqA, wkA (e := j + 1), wkA]
    simp
   ·
    rw [ih _ (j + 1) (by omega) (by omega) (by simp; omega)]
    simp only [Xiv, List.append_assoc, List.singleton_append]
    congr 2
    omega
 have := key l [] k h0 (by omega) (by simp; omega)
 simp only [List.length_nil, List.nil_append] at this
 exact Xkw this
theorem Xf5 (l : List ByteArray) (k : Int) (h0 : 0 < k) (h1 : k ≤ 1000000000) (hl : l.length ≤ 100000000) : Xbd (Xiv k l) k = some (k + l.length) := by
 unfold Xbd
 have key : ∀ (r a : List ByteArray) (j : Int), 0 < j → j + r.length ≤ 2000000000 → a.length + r.length ≤ 100000000 → loop (Xa6 (a ++ Xiv j r)) (j, (a.length : Int)) = some (.out (j + r.length)) := by
  intro r
  induction r with
  | nil =>
   intro a j hj1 hj2 hl
   refine Xdy ?_
   unfold Xa6
   simp only [Xiv, List.append_nil]
   rw [snA]
   simp
  | cons p r ih =>
   intro a j hj1 hj2 hl
   simp only [List.length_cons] at hj2 hl ⊢
   have hcl : ∀ (x : ByteArray) (r : List ByteArray), (a ++ x :: r).length = a.length + (r.length + 1) := fun x r => by simp
   refine lgo (y := (j + 1, ((a ++ [mT j]).length : Int))) ?_ ?_
   ·
    unfold Xa6
    simp only [Xiv, Int.toNat_natCast, Xl0, hcl, Xng]
    rw [syA, rqA, Xdf _ hj1 (by omega), Xam, Xbb (by simp), wkA (e := j + 1), wkA]
    simp
   ·
    have := ih (a ++ [mT j]) (j + 1) (by omega) (by omega) (by simp; omega)
    simp only [Xiv]
    rw [List.append_assoc, List.singleton_append] at this
    rw [this]
    congr 2
    omega
 have := key l [] k h0 (by omega) (by simp; omega)
 simp only [List.length_nil, List.nil_append] at this
 exact Xkw this
theorem Xtl (a b : Int) : (a == b) = decide (a = b) := by rw [Bool.eq_iff_iff]; simp
def rd (x : List Int) (i : Int) : Int := x.getD i.toNat 0
theorem Xpa (x : List Int) (i : Int) : x.getD i.toNat 0 = rd x i := rfl
theorem Xdh (s : ByteArray) (i : Int) : rd (Xac s) i = Xbu s i := by
 unfold rd Xac Xbu
 by_cases h : i.toNat < s.size
 ·
  rw [dif_pos h, List.getD_eq_getElem?_getD, List.getElem?_map, Array.getElem?_toList, Array.getElem?_eq_getElem h]
  rfl
 ·
  rw [dif_neg h, List.getD_eq_getElem?_getD, List.getElem?_eq_none (by rw [List.length_map, Array.length_toList]; exact Nat.le_of_not_lt h)]
  rfl
def tz (x : List Int) : Nat := (x.reverse.takeWhile (· == 0)).length
theorem Xkp (x : List Int) : tz (x ++ [0]) = tz x + 1 := by simp [tz, List.takeWhile_cons]
theorem Xol (x : List Int) (b : Int) (h : b ≠ 0) : tz (x ++ [b]) = 0 := by simp [tz, List.takeWhile_cons, h]
theorem Xt9 (x : List Int) : tz x ≤ x.length := by
 have := List.Sublist.length_le (List.takeWhile_sublist (fun a : Int => a == 0) (l := x.reverse))
 simpa [tz] using this
theorem Xrf (x : List Int) (b c : Int) : rd (x ++ [b, c]) ((x.length : Int) + 1) = c ∧ rd (x ++ [b, c]) (x.length : Int) = b := by
 constructor
 ·
  simp [rd, List.getD_eq_getElem?_getD, show ((x.length : Int) + 1).toNat = x.length + 1 from by omega]
 ·
  simp [rd, List.getD_eq_getElem?_getD]
theorem Xrq (x : List Int) : 2 ≤ tz x ↔ (2 ≤ x.length ∧ rd x ((x.length : Int) - 1) = 0 ∧ rd x ((x.length : Int) - 2) = 0) := by
 rcases List.eq_nil_or_concat x with rfl | ⟨y, c, rfl⟩
 ·
  simp [tz]
 ·
  rcases List.eq_nil_or_concat y with rfl | ⟨z, b, rfl⟩
  ·
   constructor
   ·
    intro h; have := Xt9 ([].concat c); simp at this h; omega
   ·
    intro h; simp at h
  ·
   simp only [List.concat_eq_append, List.append_assoc, List.singleton_append]
   have e1 := (Xrf z b c).1
   have e2 := (Xrf z b c).2
   rw [show (((z ++ [b, c]).length : Nat) : Int) - 1 = (z.length : Int) + 1 by simp; omega, show (((z ++ [b, c]).length : Nat) : Int) - 2 = (z.length : Int) by simp, e1, e2]
   by_cases hc : c = 0
   ·
    by_cases hb : b = 0
    ·
     subst hc; subst hb
     rw [show z ++ [(0 : Int), 0] = (z ++ [0]) ++ [0] by simp, Xkp, Xkp]
     simp
    ·
     subst hc
     rw [show z ++ [b, (0 : Int)] = (z ++ [b]) ++ [0] by simp, Xkp, Xol _ _ hb]
     simp [hb]
   ·
    rw [show z ++ [b, c] = (z ++ [b]) ++ [c] by simp, Xol _ _ hc]
    simp [hc]
def Xlu (x : Int) : Prop := 0 ≤ x ∧ x ≤ 255
theorem Xj4 (s : ByteArray) : ∀ x ∈ Xac s, Xlu x := by
 intro x hx
 simp only [Xac, List.mem_map] at hx
 obtain ⟨b, _, rfl⟩ := hx
 have := b.toNat_lt
 unfold Xlu
 omega
theorem Xnh (x : List Int) (h : ∀ c ∈ x, Xlu c) : Xac (strOfNums x) = x := Xsk x h
theorem Xfo (s : ByteArray) : strOfNums (Xac s) = s := by
 apply ByteArray.ext
 apply Array.ext'
 simp only [strOfNums, Xac, List.map_map]
 conv => rhs; rw [← List.map_id s.data.toList]
 refine List.map_congr_left fun c _ => ?_
 simp
theorem Xlo {a b : ByteArray} : a.toList = b.toList ↔ a = b := by
 constructor
 ·
  intro h
  rw [ByteArray.toList_eq, ByteArray.toList_eq] at h
  exact ByteArray.ext (Array.ext' h)
 ·
  intro h; rw [h]
theorem Xek (s : ByteArray) (i j : Nat) : Xac (s.extract i j) = ((Xac s).take j).drop i := by
 simp [Xac, ByteArray.data_extract, List.map_drop, List.map_take, List.drop_take]
theorem Xpu {a b : ByteArray} (h : Xac a = Xac b) : a = b := by rw [← Xfo a, h, Xfo]
def Xay (x : List Int) (b : Int) : List Int := (if b < 4 ∧ 2 ≤ tz x then x ++ [3] else x) ++ [b]
def Xld (x : List Int) (t : List Int) : List Int := t.foldl Xay x
theorem Xly (x : List Int) : Xld x [] = x := rfl
theorem Xe7 (x : List Int) (b : Int) (t : List Int) : Xld x (b :: t) = Xld (Xay x b) t := rfl
theorem Xd9 (a : List Int) (i : Nat) (h : i < a.length) : a.drop i = rd a i :: a.drop (i + 1) := by
 rw [List.drop_eq_getElem_cons h]; simp [rd, List.getD_eq_getElem?_getD, List.getElem?_eq_getElem h]
theorem Xqq (t : List Int) : ∀ x, (∀ c ∈ x, Xlu c) → (∀ c ∈ t, Xlu c) → ∀ c ∈ Xld x t, Xlu c := by
 induction t with
 | nil => intro x hx _; exact hx
 | cons b t ih =>
  intro x hx ht
  rw [Xe7]
  refine ih _ ?_ (fun c hc => ht c (List.mem_cons_of_mem _ hc))
  intro c hc
  unfold Xay at hc
  rw [List.mem_append] at hc
  rcases hc with hc | hc
  ·
   split at hc
   ·
    rw [List.mem_append] at hc
    rcases hc with hc | hc
    ·
     exact hx c hc
    ·
     rw [List.mem_singleton] at hc; subst hc; unfold Xlu; omega
   ·
    exact hx c hc
  ·
   rw [List.mem_singleton] at hc; subst hc; exact ht _ (List.mem_cons_self)
theorem Xsb (t : List Int) : ∀ x, (Xld x t).length ≤ x.length + 2 * t.length := by
 induction t with
 | nil => intro x; rw [Xly]; simp
 | cons b t ih =>
  intro x
  rw [Xe7]
  have := ih (Xay x b)
  have h2 : (Xay x b).length ≤ x.length + 2 := by unfold Xay; split <;> simp
  rw [List.length_cons]; omega
def Xbr (a : ByteArray) : ByteArray × Bool := if 1 ≤ a.size ∧ a.size ≤ 60000 ∧ Xbu a ((a.size : Int) - 1) ≠ 0 then (strOfNums (Xld [] (Xac a)), true) else ((⟨#[]⟩ : ByteArray), false)
theorem Xmy (a : ByteArray) : (Xbr a).1.size ≤ 120000 := by
 unfold Xbr
 split
 ·
  rename_i h
  have := Xsb (Xac a) []
  rw [Xag, List.length_nil] at this
  simp only [strOfNums_size]
  omega
 ·
  exact Nat.zero_le _
theorem Xfi (u : ByteArray) (h : (Xbr u).2 = true) : Xac (Xbr u).1 = Xld [] (Xac u) ∧ 1 ≤ u.size ∧ u.size ≤ 60000 ∧ Xbu u ((u.size : Int) - 1) ≠ 0 := by
 unfold Xbr at h ⊢
 split at h
 ·
  rename_i hc
  rw [if_pos hc]
  refine ⟨?_, hc⟩
  simp only []
  exact Xnh _ (Xqq _ _ (by simp) (Xj4 u))
 ·
  simp at h
def unL : List Int → List Int → List Int
 | _, [] => []
 | x, c :: t => (if c = 3 ∧ 2 ≤ tz x then [] else [c]) ++ unL (x ++ [c]) t
theorem Xfp : ∀ (t x : List Int), (unL x t).length ≤ t.length
 | [], x => by simp [unL]
 | c :: t, x => by
  rw [unL, List.length_append, List.length_cons]
  have := Xfp t (x ++ [c])
  split <;> simp <;> omega
theorem Xu2 (t : List Int) : ∀ x, ∃ e, Xld x t = x ++ e ∧ unL x e = t := by
 induction t with
 | nil => intro x; exact ⟨[], by simp [Xly], rfl⟩
 | cons b t ih =>
  intro x
  obtain ⟨e, h1, h2⟩ := ih (Xay x b)
  rw [Xe7, h1]
  by_cases hc : b < 4 ∧ 2 ≤ tz x
  ·
   refine ⟨3 :: b :: e, ?_, ?_⟩
   ·
    simp [Xay, if_pos hc]
   ·
    rw [unL, if_pos ⟨rfl, hc.2⟩, List.nil_append, unL, if_neg (fun h => by rw [Xol x 3 (by decide)] at h; omega)]
    simp only [Xay, if_pos hc] at h2
    rw [h2]; rfl
  ·
   refine ⟨b :: e, ?_, ?_⟩
   ·
    simp [Xay, if_neg hc]
   ·
    rw [unL, if_neg (fun h => hc ⟨by omega, h.2⟩)]
    simp only [Xay, if_neg hc] at h2
    rw [h2]; rfl
def unV (a : ByteArray) : ByteArray × Bool := if Xbr (strOfNums (unL [] (Xac a))) = (a, true) then (strOfNums (unL [] (Xac a)), true) else ((⟨#[]⟩ : ByteArray), false)
theorem Xrs (u : ByteArray) (h : (Xbr u).2 = true) : unV (Xbr u).1 = (u, true) := by
 have hb := (Xfi u h).1
 obtain ⟨e, h1, h2⟩ := Xu2 (Xac u) []
 rw [h1, List.nil_append] at hb
 unfold unV
 rw [hb, h2, Xfo, if_pos (by rw [← h])]
theorem Xda (a : List Int) (i : Nat) (h : i < a.length) : a.take (i + 1) = a.take i ++ [rd a i] := by
 rw [List.take_succ_eq_append_getElem h]; simp [rd, List.getD_eq_getElem?_getD, List.getElem?_eq_getElem h]
theorem Xoc (a : List Int) (i : Int) (j : Nat) (h : i.toNat < j) : rd (a.take j) i = rd a i := by
 simp [rd, List.getD_eq_getElem?_getD, List.getElem?_take, h]
theorem Xpm (a : ByteArray) (i : Nat) (h : i < a.size) : unL ((Xac a).take i) ((Xac a).drop i) = (if Xbu a i = 3 ∧ 2 ≤ tz ((Xac a).take i) then [] else [Xbu a i]) ++ unL ((Xac a).take (i + 1)) ((Xac a).drop (i + 1)) := by
 rw [Xd9 _ _ (by rw [Xag]; exact h), unL, Xdh, Xda _ _ (by rw [Xag]; exact h), Xdh]
def Xra (x : List Int) : Prop := ∀ i : Nat, i + 2 < x.length → rd x i = 0 → rd x ((i : Int) + 1) = 0 → rd x ((i : Int) + 2) ≠ 1
theorem Xfd (x y : List Int) (i : Int) (h : i.toNat < x.length) : rd (x ++ y) i = rd x i := by
 simp [rd, List.getD_eq_getElem?_getD, List.getElem?_append_left h]
theorem Xj9 (x y : List Int) (i : Int) (h : x.length ≤ i.toNat) : rd (x ++ y) i = rd y ((i.toNat - x.length : Nat) : Int) := by
 simp [rd, List.getD_eq_getElem?_getD, List.getElem?_append_right h]
theorem Xtw (x : List Int) (i : Int) (h : x.length ≤ i.toNat) : rd x i = 0 := by
 simp [rd, List.getD_eq_getElem?_getD, List.getElem?_eq_none h]
theorem Xj3 (x : List Int) (c : Int) (h : Xra x) (hc : 2 ≤ tz x → c ≠ 1) : Xra (x ++ [c]) := by
 intro i hi h0 h1
 rw [List.length_append, List.length_singleton] at hi
 rw [Xfd _ _ _ (by omega)] at h0 h1
 by_cases he : i + 2 < x.length
 ·
  rw [Xfd _ _ _ (by omega)]; exact h i he h0 h1
 ·
  rw [Xj9 _ _ _ (by omega), show ((i : Int) + 2).toNat - x.length = 0 by omega]
  refine hc ((Xrq x).2 ⟨by omega, ?_, ?_⟩)
  ·
   rw [show (x.length : Int) - 1 = (i : Int) + 1 by omega]; exact h1
  ·
   rw [show (x.length : Int) - 2 = (i : Int) by omega]; exact h0
theorem Xrb (t : List Int) : ∀ x, Xra x → Xra (Xld x t) := by
 induction t with
 | nil => intro x h; exact h
 | cons b t ih =>
  intro x h
  rw [Xe7]
  refine ih _ ?_
  unfold Xay
  split
  ·
   rename_i hc
   exact Xj3 _ _ (Xj3 _ _ h (fun _ => by decide)) (fun h2 => by rw [Xol x 3 (by decide)] at h2; omega)
  ·
   rename_i hc
   exact Xj3 _ _ h (fun h2 hb => hc ⟨by omega, h2⟩)
theorem Xsc (t : List Int) (x : List Int) (h : 1 ≤ t.length) : 1 ≤ (Xld x t).length ∧ rd (Xld x t) (((Xld x t).length : Int) - 1) = rd t ((t.length : Int) - 1) := by
 rcases List.eq_nil_or_concat t with rfl | ⟨y, c, rfl⟩
 ·
  simp at h
 ·
  rw [List.concat_eq_append, Xld, List.foldl_append]
  simp only [List.foldl_cons, List.foldl_nil]
  unfold Xay
  generalize (if c < 4 ∧ 2 ≤ tz (List.foldl Xay x y) then List.foldl Xay x y ++ [3] else List.foldl Xay x y) = z
  refine ⟨by simp, ?_⟩
  rw [Xj9 _ _ _ (by simp), Xj9 _ _ _ (by simp)]
  congr 1
  simp
theorem Xgk (u : ByteArray) (h : (Xbr u).2 = true) : 1 ≤ (Xbr u).1.size ∧ Xra (Xac (Xbr u).1) ∧ rd (Xac (Xbr u).1) (((Xbr u).1.size : Int) - 1) ≠ 0 := by
 obtain ⟨hb, h1, h2, h3⟩ := Xfi u h
 have hl := Xag (Xbr u).1
 have hlu := Xag u
 rw [← hl, hb]
 obtain ⟨e1, e2⟩ := Xsc (Xac u) [] (by omega)
 refine ⟨e1, Xrb _ _ (fun i hi => by simp at hi), ?_⟩
 rw [e2, hlu, Xdh]
 exact h3
def Xnw : List ByteArray → List Int → ByteArray × Bool
 | [], x => (strOfNums x, true)
 | u :: us, x => if (Xbr u).2 = true then (if x.length + 3 + (Xbr u).1.size > 60000 then ((⟨#[]⟩ : ByteArray), false) else Xnw us ((x ++ [0, 0, 1]) ++ Xac (Xbr u).1)) else ((⟨#[]⟩ : ByteArray), false)
def Xib (l : List ByteArray) : ByteArray × Bool := if l.length > 400 then ((⟨#[]⟩ : ByteArray), false) else Xnw l []
theorem Xow : ∀ (l : List ByteArray) (x : List Int), x.length ≤ 60000 → (Xnw l x).1.size ≤ 60000
 | [], x, h => by simpa [Xnw, strOfNums_size] using h
 | u :: us, x, h => by
  rw [Xnw]
  split
  ·
   split
   ·
    simp [ByteArray.size]
   ·
    rename_i h2
    refine Xow us _ ?_
    rw [List.length_append, Xag, List.length_append]; simp; omega
  ·
   simp [ByteArray.size]
theorem Xqt (l : List ByteArray) : (Xib l).1.size ≤ 60000 := by
 unfold Xib
 split
 ·
  simp [ByteArray.size]
 ·
  exact Xow _ _ (by simp)
def frB : List ByteArray → List Int
 | [] => []
 | u :: us => [0, 0, 1] ++ (Xac (Xbr u).1 ++ frB us)
theorem Xox : ∀ (l : List ByteArray) (x : List Int), (Xnw l x).2 = true → (Xnw l x).1 = strOfNums (x ++ frB l) ∧ ∀ u ∈ l, (Xbr u).2 = true
 | [], x, _ => by simp [Xnw, frB]
 | u :: us, x, h => by
  rw [Xnw] at h ⊢
  split at h
  ·
   rename_i h1
   rw [if_pos h1]
   split at h
   ·
    simp at h
   ·
    rename_i h2
    rw [if_neg h2]
    obtain ⟨e1, e2⟩ := Xox us _ h
    refine ⟨by rw [e1, frB]; simp, ?_⟩
    intro v hv
    rcases List.mem_cons.1 hv with rfl | hv
    ·
     exact h1
    ·
     exact e2 v hv
  ·
   simp at h
theorem Xou : ∀ l : List ByteArray, ∀ c ∈ frB l, Xlu c
 | [] => by simp [frB]
 | u :: us => by
  intro c hc
  rw [frB, List.mem_append, List.mem_append] at hc
  rcases hc with hc | hc | hc
  ·
   simp at hc; unfold Xlu; omega
  ·
   exact Xj4 _ c hc
  ·
   exact Xou us c hc
theorem Xgm (l : List ByteArray) (s : ByteArray) (h : Xib l = (s, true)) : Xac s = frB l ∧ (∀ u ∈ l, (Xbr u).2 = true) ∧ l.length ≤ 400 ∧ s.size ≤ 60000 := by
 have hz := Xqt l
 rw [h] at hz
 unfold Xib at h
 split at h
 ·
  simp at h
 ·
  obtain ⟨e1, e2⟩ := Xox l [] (by rw [h])
  rw [h] at e1
  simp only [List.nil_append] at e1
  exact ⟨by rw [e1]; exact Xnh _ (Xou l), e2, by omega, hz⟩
def Xg4 (L : List Int) : Prop := rd L 0 = 0 ∧ rd L 1 = 0 ∧ rd L 2 = 1
instance (L : List Int) : Decidable (Xg4 L) := by unfold Xg4; infer_instance
def Xcj (p : Int) : List Int → List Int
 | [] => []
 | c :: r => if Xg4 (c :: r) then p :: Xcj (p + 1) r else Xcj (p + 1) r
theorem Xsh (L : List Int) (h : Xg4 L) : ∃ r, L = 0 :: 0 :: 1 :: r := by
 obtain ⟨h0, h1, h2⟩ := h
 match L, h0, h1, h2 with
 | [], _, _, h2 => simp [rd] at h2
 | [_], _, _, h2 => simp [rd] at h2
 | [_, _], _, _, h2 => simp [rd] at h2
 | a :: b :: c :: r, h0, h1, h2 => simp [rd] at h0 h1 h2; exact ⟨r, by rw [h0, h1, h2]⟩
theorem Xs6 (r : List Int) : Xg4 (0 :: 0 :: 1 :: r) := by simp [Xg4, rd]
theorem Xph (p : Int) (r : List Int) : Xcj p (0 :: 0 :: 1 :: r) = p :: Xcj (p + 3) r := by
 rw [Xcj, if_pos (Xs6 r), Xcj, if_neg (by simp [Xg4, rd]), Xcj, if_neg (by simp [Xg4, rd]), show p + 1 + 1 + 1 = p + 3 by omega]
theorem Xp2 (p : Int) (L : List Int) (h : L.length ≤ 2) : Xcj p L = [] := by
 match L, h with
 | [], _ => rfl
 | [_], _ => rw [Xcj, if_neg (by simp [Xg4, rd]), Xcj]
 | [_, _], _ => rw [Xcj, if_neg (by simp [Xg4, rd]), Xcj, if_neg (by simp [Xg4, rd]), Xcj]
 | _ :: _ :: _ :: _, h => simp at h
def Xgi (n : Int) : Int → List Int → Prop
 | p, [] => p ≤ n
 | p, q :: t => p ≤ q ∧ Xgi n (q + 3) t
theorem Xtn (n : Int) (p q : Int) (h : p ≤ q) : ∀ t, Xgi n q t → Xgi n p t
 | [], h1 => Int.le_trans h h1
 | r :: t, h1 => ⟨Int.le_trans h h1.1, h1.2⟩
theorem Xoe : ∀ (m : Nat) (L : List Int) (p : Int), L.length ≤ m → Xgi (p + L.length) p (Xcj p L)
 | m, [], p, _ => by simp [Xcj, Xgi]
 | 0, c :: r, p, h => by simp at h
 | m + 1, c :: r, p, h => by
  by_cases hh : Xg4 (c :: r)
  ·
   obtain ⟨r', e⟩ := Xsh _ hh
   rw [e, Xph]
   refine ⟨Int.le_refl _, ?_⟩
   rw [e] at h
   have := Xoe m r' (p + 3) (by simp at h; omega)
   rw [show p + ((0 :: 0 :: 1 :: r' : List Int).length : Int) = p + 3 + (r'.length : Int) by simp; omega]
   exact this
  ·
   rw [Xcj, if_neg hh]
   have := Xoe m r (p + 1) (by simp at h; omega)
   rw [show p + ((c :: r).length : Int) = p + 1 + (r.length : Int) by simp; omega]
   exact Xtn _ _ _ (by omega) _ this
theorem Xnp : ∀ (E R : List Int) (p : Int), (∀ i, i < E.length → ¬ Xg4 ((E ++ R).drop i)) → Xcj p (E ++ R) = Xcj (p + E.length) R
 | [], R, p, _ => by simp
 | c :: E, R, p, h => by
  have h0 := h 0 (by simp)
  rw [List.drop_zero, List.cons_append] at h0
  rw [List.cons_append, Xcj, if_neg h0, Xnp E R (p + 1) (fun i hi => by
   have := h (i + 1) (by simp; omega)
   rwa [List.cons_append, List.drop_succ_cons] at this)]
  rw [show p + 1 + (E.length : Int) = p + ((c :: E).length : Int) by simp; omega]
theorem Xc4 (L : List Int) (i : Nat) (j : Int) (hj : 0 ≤ j) : rd (L.drop i) j = rd L ((i : Int) + j) := by
 simp [rd, List.getD_eq_getElem?_getD, show ((i : Int) + j).toNat = i + j.toNat by omega]
theorem Xmz (u : ByteArray) (h : (Xbr u).2 = true) (R : List Int) (i : Nat) (hi : i < (Xac (Xbr u).1).length) : ¬ Xg4 ((Xac (Xbr u).1 ++ R).drop i) := by
 obtain ⟨h1, h2, h3⟩ := Xgk u h
 have hl := Xag (Xbr u).1
 intro hh
 unfold Xg4 at hh
 rw [Xc4 _ _ _ (by omega), Xc4 _ _ _ (by omega), Xc4 _ _ _ (by omega)] at hh
 obtain ⟨a0, a1, a2⟩ := hh
 rw [Xfd _ _ _ (by omega)] at a0
 rw [Int.add_zero] at a0
 by_cases e1 : i + 1 = (Xbr u).1.size
 ·
  rw [show (i : Int) = ((Xbr u).1.size : Int) - 1 by omega] at a0; exact h3 a0
 ·
  rw [Xfd _ _ _ (by omega)] at a1
  by_cases e2 : i + 2 = (Xbr u).1.size
  ·
   rw [show (i : Int) + 1 = ((Xbr u).1.size : Int) - 1 by omega] at a1; exact h3 a1
  ·
   rw [Xfd _ _ _ (by omega)] at a2
   exact h2 i (by omega) a0 a1 a2
def Xta : Int → List ByteArray → List Int
 | _, [] => []
 | p, u :: us => p :: Xta (p + 3 + ((Xbr u).1.size : Int)) us
theorem Xpg : ∀ (l : List ByteArray) (p : Int), (∀ u ∈ l, (Xbr u).2 = true) → Xcj p (frB l) = Xta p l
 | [], p, _ => rfl
 | u :: us, p, h => by
  rw [frB, Xta]
  show Xcj p (0 :: 0 :: 1 :: (Xac (Xbr u).1 ++ frB us)) = _
  rw [Xph, Xnp _ _ _ (Xmz u (h u (List.mem_cons_self)) _), Xpg us _ (fun v hv => h v (List.mem_cons_of_mem _ hv)), Xag]
theorem Xun (s : ByteArray) (i : Nat) (h : i + 3 ≤ s.size) : (s.extract i (i + 3)).toList = ([0, 0, 1] : List UInt8) ↔ Xg4 ((Xac s).drop i) := by
 have hl := Xag s
 have e : (s.extract i (i + 3)).toList = ([0, 0, 1] : List UInt8) ↔ Xac (s.extract i (i + 3)) = [0, 0, 1] := by
  rw [ByteArray.toList_eq]
  constructor
  ·
   intro h; unfold Xac; rw [h]; rfl
  ·
   intro h
   have : s.extract i (i + 3) = strOfNums [0, 0, 1] := by rw [← Xfo (s.extract i (i + 3)), h]
   rw [this]; rfl
 rw [e, Xek]
 have h3 : ((Xac s).take (i + 3)).drop i = [rd (Xac s) i, rd (Xac s) ((i + 1 : Nat) : Int), rd (Xac s) ((i + 2 : Nat) : Int)] := by
  rw [show i + 3 = i + 2 + 1 by rfl, Xda _ _ (by omega), Xda _ _ (by omega), Xda _ _ (by omega), List.append_assoc, List.append_assoc, List.drop_append_of_le_length (by rw [List.length_take]; omega), List.drop_eq_nil_of_le (by rw [List.length_take]; omega)]
  rfl
 rw [h3]
 unfold Xg4
 rw [Xc4 _ _ _ (by omega), Xc4 _ _ _ (by omega), Xc4 _ _ _ (by omega), Int.add_zero, show ((i + 1 : Nat) : Int) = (i : Int) + 1 by omega, show ((i + 2 : Nat) : Int) = (i : Int) + 2 by omega]
 simp
noncomputable def uV (s : ByteArray) : List ByteArray × Bool := @dite _ (∃ l, Xib l = (s, true)) (Classical.propDecidable _) (fun h => (Classical.choose h, true)) (fun _ => ([], false))
def Xqb (x : List ByteArray) (s : ByteArray) : List ByteArray × Bool := if (Xib x).2 = true then (if (Xib x).1.toList = s.toList then (x, true) else ([], false)) else ([], false)
theorem Xqo (x : List ByteArray) (s : ByteArray) : Xqb x s = ([], false) ∨ (Xqb x s).2 = true ∧ Xib (Xqb x s).1 = (s, true) := by
 unfold Xqb
 split
 ·
  rename_i h
  split
  ·
   rename_i h2
   exact Or.inr ⟨rfl, Prod.ext (Xlo.1 h2) h⟩
  ·
   exact Or.inl rfl
 ·
  exact Or.inl rfl
theorem Xmx (x : List ByteArray) (s : ByteArray) (h : Xib x = (s, true)) : Xqb x s = (x, true) := by
 unfold Xqb
 rw [h]; simp
theorem Xsw (s : ByteArray) : (∃ l, Xib l = (s, true) ∧ uV s = (l, true)) ∨ (¬ (∃ l, Xib l = (s, true)) ∧ uV s = ([], false)) := by
 by_cases h : ∃ l, Xib l = (s, true)
 ·
  exact Or.inl ⟨Classical.choose h, Classical.choose_spec h, by unfold uV; rw [dif_pos h]⟩
 ·
  exact Or.inr ⟨h, by unfold uV; rw [dif_neg h]⟩
theorem Xua (s : ByteArray) (h : 1 ≤ s.size) (h2 : (uV s).2 = true) : (uV s).1 ≠ [] := by
 rcases Xsw s with ⟨l, h1, e⟩ | ⟨_, e⟩
 ·
  rw [e]
  intro hl
  simp only [] at hl
  rw [hl] at h1
  have := congrArg (fun p => p.1.size) h1
  simp [Xib, Xnw, strOfNums_size] at this
  omega
 ·
  rw [e] at h2; simp at h2
theorem Xrr (s : ByteArray) : (uV s).1.length ≤ 400 := by
 rcases Xsw s with ⟨l, h1, e⟩ | ⟨hn, e⟩
 ·
  rw [e]; exact (Xgm l s h1).2.2.1
 ·
  rw [e]; simp
theorem Xpn (a : ByteArray) (hs : a.size ≤ 60000) : (unV a).1.size ≤ 60000 := by
 unfold unV
 have := Xfp (Xac a) []
 rw [Xag] at this
 split
 ·
  rw [strOfNums_size]; omega
 ·
  simp [ByteArray.size]
theorem Xmu (s : ByteArray) (u : ByteArray) (R : List Int) (p : Nat) (h : (Xac s).drop p = [0, 0, 1] ++ (Xac (Xbr u).1 ++ R)) : s.extract (p + 3) (p + 3 + (Xbr u).1.size) = (Xbr u).1 ∧ (Xac s).drop (p + 3 + (Xbr u).1.size) = R ∧ p + 3 + (Xbr u).1.size + R.length = s.size := by
 have h3 : (Xac s).drop (p + 3) = Xac (Xbr u).1 ++ R := by rw [← List.drop_drop, h]; rfl
 have hl := Xag (Xbr u).1
 refine ⟨?_, ?_, ?_⟩
 ·
  apply Xpu
  rw [Xek, List.drop_take, h3, show p + 3 + (Xbr u).1.size - (p + 3) = (Xac (Xbr u).1).length by omega, List.take_left']
  rfl
 ·
  rw [← List.drop_drop, h3, ← hl, List.drop_left']
  rfl
 ·
  have e := congrArg List.length h
  rw [List.length_drop, Xag] at e
  simp only [List.length_append, List.length_cons, List.length_nil, hl] at e
  omega
theorem Xqp (a : ByteArray) (x : List Int) (i : Nat) (h : i < a.size) : Xld x ((Xac a).drop i) = Xld (Xay x (Xbu a i)) ((Xac a).drop (i + 1)) := by
 rw [Xd9 _ i (by rw [Xag]; exact h), Xe7, Xdh]
theorem Xqr (a : ByteArray) (x : List Int) : Xld x ((Xac a).drop a.size) = x := by
 rw [List.drop_eq_nil_of_le (by rw [Xag]; omega), Xly]
theorem Xjp (x : List Int) (b : Int) : (Xay x b).length ≤ x.length + 2 := by unfold Xay; split <;> simp
theorem Xg1 (a : ByteArray) (h : a.size ≤ 60000) : Xb4 a = some (strOfNums (Xld [] (Xac a))) := by
 have hm : maxLen = 9223372036854775807 := rfl
 unfold Xb4
 have key : ∀ i : Nat, i ≤ a.size → ∀ x : List Int, x.length ≤ 2 * i → loop (Xbg a) ((i : Int), x) = some (Xld x ((Xac a).drop i)) := by
  refine Xdc _ ?_ ?_
  ·
   intro x _
   rw [Xqr]
   exact Xdy (by unfold Xbg; rw [Xbf (by simp)])
  ·
   intro i hi ih x hx
   rw [Xqp a x i hi]
   have hl := Xjp x (Xbu a i)
   refine lgo (y := (((i + 1 : Nat) : Int), Xay x (Xbu a i))) ?_ (ih _ (by omega))
   have ht := Xrq x
   have hc : (sel (decide ((x.length : Int) ≥ 2)) (
     req (0 ≤ (Xah .i64 ((x.length : Int) - 1)) ∧ (Xah .i64 ((x.length : Int) - 1)) < x.length) <|
     req ((Xah .i64 ((x.length : Int) - 1)).toNat < x.length) <|
     sel ((x.getD ((Xah .i64 ((x.length : Int) - 1)).toNat) 0) == 0) (
     req (0 ≤ (Xah .i64 ((x.length : Int) - 2)) ∧ (Xah .i64 ((x.length : Int) - 2)) < x.length) <|
     req ((Xah .i64 ((x.length : Int) - 2)).toNat < x.length) <|
     sel ((x.getD ((Xah .i64 ((x.length : Int) - 2)).toNat) 0) == 0) (
     req (0 ≤ (i : Int) ∧ (i : Int) < a.size) <|
     some (decide ((Xbu a i) < 4))) (
     some false)) (
     some false)) (
     some false)) = some (decide (Xbu a i < 4 ∧ 2 ≤ tz x)) := by
    rw [wkA (e := (x.length : Int) - 1), wkA (e := (x.length : Int) - 2)]
    by_cases h2 : (x.length : Int) ≥ 2
    ·
     rw [Xbq h2, rqA, rqA, rqA, rqA, rqA, Xpa, Xpa]
     by_cases h3 : rd x ((x.length : Int) - 1) = 0
     ·
      rw [Xck (by simpa using h3)]
      by_cases h4 : rd x ((x.length : Int) - 2) = 0
      ·
       rw [Xck (by simpa using h4)]
       have : 2 ≤ tz x := ht.2 ⟨by omega, h3, h4⟩
       congr 1; rw [decide_eq_decide]; omega
      ·
       rw [Xbb (by simpa using h4), decide_eq_false (fun h => h4 (ht.1 h.2).2.2)]
     ·
      rw [Xbb (by simpa using h3), decide_eq_false (fun h => h3 (ht.1 h.2).2.1)]
    ·
     rw [Xbf h2, decide_eq_false (fun h => by have := (ht.1 h.2).1; omega)]
   unfold Xbg
   simp only
   rw [syA, hc, Xam]
   unfold Xay
   by_cases hp : Xbu a i < 4 ∧ 2 ≤ tz x
   ·
    rw [Xbq hp, if_pos hp, Xdi (by simp only [List.length_singleton]; omega), Xam, rqA, Xdi (by simp only [List.length_append, List.length_singleton]; omega), wkA]
    rfl
   ·
    rw [Xbf hp, if_neg hp, Xam, rqA, Xdi (by simp only [List.length_singleton]; omega), wkA]
    rfl
 exact (Xkw (key 0 (by omega) [] (by simp))).trans rfl
theorem Xff (a : ByteArray) (hs : a.size ≤ 9223372036854775807) : Xcn a = some (Xbr a) := by
 unfold Xcn Xbr
 by_cases h : (a.size : Int) = 0
 ·
  rw [Xck (by simpa using h), Xam, Xe5, if_neg (by omega)]
 ·
  rw [Xbb (by simpa using h)]
  by_cases h1 : (a.size : Int) > 60000
  ·
   rw [Xbq h1, Xam, Xe5, if_neg (by omega)]
  ·
   rw [Xbf h1, wkA, rqA, Xam, Xg1 a (by omega), Xam]
   by_cases h2 : Xbu a ((a.size : Int) - 1) = 0
   ·
    rw [Xck (by simpa using h2), if_neg (fun hh => hh.2.2 h2)]
   ·
    rw [Xbb (by simpa using h2), if_pos ⟨by omega, by omega, h2⟩]
theorem Xhf (a : ByteArray) (h : a.size ≤ 60000) : loop (Xbl a) (0, 0, []) = some (Xld [] (Xac a)) := by
 have hm : maxLen = 9223372036854775807 := rfl
 have key : ∀ i : Nat, i ≤ a.size → ∀ x : List Int, x.length ≤ 2 * i → loop (Xbl a) ((tz x : Int), (i : Int), x) = some (Xld x ((Xac a).drop i)) := by
  refine Xdc _ ?_ ?_
  ·
   intro x _
   rw [Xqr]
   exact Xdy (by unfold Xbl; rw [Xbf (by simp)])
  ·
   intro i hi ih x hx
   rw [Xqp a x i hi]
   have hl := Xjp x (Xbu a i)
   refine lgo (y := ((tz (Xay x (Xbu a i)) : Int), ((i + 1 : Nat) : Int), Xay x (Xbu a i))) ?_ (ih _ (by omega))
   have hz := Xt9 x
   have hc : (req (0 ≤ (i : Int) ∧ (i : Int) < a.size) <| sel (decide ((Xbu a i) < 4)) (some (decide ((tz x : Int) ≥ 2))) (some false)) = some (decide (Xbu a i < 4 ∧ 2 ≤ tz x)) := by
    rw [rqA, Xe2]
    congr 1
    rw [Bool.eq_iff_iff]
    simp only [Bool.and_eq_true, decide_eq_true_eq]
    omega
   have Xio : ∀ (y : List Int) (z : Int), z = (tz y : Int) → z ≤ 200000 → sel (Xbu a i == 0) (some (Xah .i64 (z + 1), y ++ [Xbu a i])) (some (0, y ++ [Xbu a i])) = some ((tz (y ++ [Xbu a i]) : Int), y ++ [Xbu a i]) := by
    intro y z hz hz2
    by_cases h0 : Xbu a i = 0
    ·
     rw [Xck (by simpa using h0), h0, Xkp, hz, wkA]; rfl
    ·
     rw [Xbb (by simpa using h0), Xol _ _ h0]; rfl
   unfold Xbl
   simp only
   rw [syA, hc, Xam]
   unfold Xay
   by_cases hp : Xbu a i < 4 ∧ 2 ≤ tz x
   ·
    rw [Xbq hp, if_pos hp, Xdi (by simp only [List.length_singleton]; omega), Xam, rqA, Xdi (by simp only [List.length_append, List.length_singleton]; omega), rqA]
    simp only
    rw [Xio (x ++ [3]) 0 (by rw [Xol _ _ (by decide)]; rfl) (by omega), Xam, wkA (e := (i : Int) + 1)]
    rfl
   ·
    rw [Xbf hp, if_neg hp, Xam, rqA, Xdi (by simp only [List.length_singleton]; omega), rqA]
    simp only
    rw [Xio x _ rfl (by omega), Xam, wkA (e := (i : Int) + 1)]
    rfl
 exact key 0 (by omega) [] (by simp)
theorem Xe9 (a : ByteArray) (hs : a.size ≤ 9223372036854775807) : Xcl a = some (Xbr a) := by
 unfold Xcl Xbr
 rw [Xrl]
 by_cases h : a.size = 0
 ·
  rw [Xbq h, Xam, Xe5, if_neg (by omega)]
 ·
  rw [Xbf h]
  by_cases h1 : (a.size : Int) > 60000
  ·
   rw [Xbq h1, Xam, Xe5, if_neg (by omega)]
  ·
   rw [Xbf h1, wkA (e := (a.size : Int) - 1), rqA, Xam]
   by_cases h2 : Xbu a ((a.size : Int) - 1) = 0
   ·
    rw [Xck (by simpa using h2), if_neg (fun hh => hh.2.2 h2)]
   ·
    rw [Xbb (by simpa using h2), if_pos ⟨by omega, by omega, h2⟩, rqA, Xpl (by omega), wkA (e := (a.size : Int) / 2), wkA (e := (a.size : Int) + (a.size : Int) / 2), rqA]
    exact (Xkw (Xhf a (by omega))).trans rfl
theorem Xos (l : List ByteArray) (i : Nat) (h : i < l.length) : l.getD i Xcw = l[i] := Xqu l i h _
theorem Xk6 (l : List ByteArray) (hs : ∀ u ∈ l, u.size ≤ 9223372036854775807) : Xd0 l = some (Xib l) := by
 have hm : maxLen = 9223372036854775807 := rfl
 unfold Xd0 Xib
 by_cases h : (l.length : Int) > 400
 ·
  rw [Xbq h, if_pos (by omega)]
 ·
  rw [Xbf h, if_neg (by omega)]
  have key : ∀ i : Nat, i ≤ l.length → ∀ x : List Int, x.length ≤ 60000 → ∃ o, loop (Xb0 l) ((i : Int), x) = some o ∧ (match o with | .out v => some ((strOfNums v), true) | .ret r => some r) = some (Xnw (l.drop i) x) := by
   refine Xdc _ ?_ ?_
   ·
    intro x _
    rw [List.drop_eq_nil_of_le (Nat.le_refl _), Xnw]
    exact ⟨_, Xdy (by unfold Xb0; rw [Xbf (by simp)]), rfl⟩
   ·
    intro i hi ih x hx
    have hz := Xmy l[i]
    have hn := Xag (Xbr l[i]).1
    rw [List.drop_eq_getElem_cons hi, Xnw]
    have st : Xb0 l ((i : Int), x) = if (Xbr l[i]).2 = true then (if x.length + 3 + (Xbr l[i]).1.size > 60000 then some (.done (.ret ((⟨#[]⟩ : ByteArray), false))) else some (.go (((i + 1 : Nat) : Int), (x ++ [0, 0, 1]) ++ Xac (Xbr l[i]).1))) else some (.done (.ret ((⟨#[]⟩ : ByteArray), false))) := by
     unfold Xb0
     simp only [Int.toNat_natCast]
     rw [syA, rqA, Xos l i hi, Xff _ (hs _ (List.getElem_mem hi)), Xam]
     cases h1 : (Xbr l[i]).2 with
     | false => rw [if_neg (by simp)]; rfl
     | true =>
      rw [if_pos rfl, Bool.not_true, Xgx, Xdi (by simp only [List.length_cons, List.length_nil]; omega), Xdi (by simp only [List.length_append, List.length_cons, List.length_nil]; omega), wkA]
      by_cases h2 : x.length + 3 + (Xbr l[i]).1.size > 60000
      ·
       rw [if_pos h2, Xbq (by simp only [List.length_append, List.length_cons, List.length_nil]; omega)]
      ·
       rw [if_neg h2, Xbf (by simp only [List.length_append, List.length_cons, List.length_nil]; omega)]
       rfl
    by_cases h1 : (Xbr l[i]).2 = true
    ·
     rw [if_pos h1] at st ⊢
     by_cases h2 : x.length + 3 + (Xbr l[i]).1.size > 60000
     ·
      rw [if_pos h2] at st ⊢
      exact ⟨_, Xdy st, rfl⟩
     ·
      rw [if_neg h2] at st ⊢
      obtain ⟨o, ho, ho2⟩ := ih ((x ++ [0, 0, 1]) ++ Xac (Xbr l[i]).1) (by rw [List.length_append, List.length_append, hn, List.length_cons, List.length_cons, List.length_cons, List.length_nil]; omega)
      exact ⟨o, lgo st ho, ho2⟩
    ·
     rw [if_neg h1] at st ⊢
     exact ⟨_, Xdy st, rfl⟩
  obtain ⟨o, ho, ho2⟩ := key 0 (by omega) [] (by simp)
  refine (Xkw ho).trans ?_
  cases o <;> exact ho2
theorem Xkz (l : List ByteArray) (hs : ∀ u ∈ l, u.size ≤ 9223372036854775807) : Xcx l = some (Xib l) := by
 have hm : maxLen = 9223372036854775807 := rfl
 unfold Xcx Xib
 by_cases h : (l.length : Int) > 400
 ·
  rw [Xbq h, if_pos (by omega)]
 ·
  rw [Xbf h, if_neg (by omega)]
  have key : ∀ i : Nat, i ≤ l.length → ∀ x : List Int, x.length ≤ 60000 → ∃ o, loop (Xby l) ((i : Int), x) = some o ∧ (match o with | .out v => some ((strOfNums v), true) | .ret r => some r) = some (Xnw (l.drop i) x) := by
   refine Xdc _ ?_ ?_
   ·
    intro x _
    rw [List.drop_eq_nil_of_le (Nat.le_refl _), Xnw]
    exact ⟨_, Xdy (by unfold Xby; rw [Xbf (by simp)]), rfl⟩
   ·
    intro i hi ih x hx
    have hz := Xmy l[i]
    have hn := Xag (Xbr l[i]).1
    rw [List.drop_eq_getElem_cons hi, Xnw]
    have st : Xby l ((i : Int), x) = if (Xbr l[i]).2 = true then (if x.length + 3 + (Xbr l[i]).1.size > 60000 then some (.done (.ret ((⟨#[]⟩ : ByteArray), false))) else some (.go (((i + 1 : Nat) : Int), (x ++ [0, 0, 1]) ++ Xac (Xbr l[i]).1))) else some (.done (.ret ((⟨#[]⟩ : ByteArray), false))) := by
     unfold Xby
     simp only [Int.toNat_natCast]
     rw [syA, rqA, Xos l i hi, Xe9 _ (hs _ (List.getElem_mem hi)), Xam]
     cases h1 : (Xbr l[i]).2 with
     | false => rw [if_neg (by simp)]; rfl
     | true =>
      rw [if_pos rfl, Xe5, Xam, wkA (e := (x.length : Int) + 3), wkA (e := (x.length : Int) + 3 + _)]
      by_cases h2 : x.length + 3 + (Xbr l[i]).1.size > 60000
      ·
       rw [if_pos h2, syA]
      ·
       rw [if_neg h2, snA, Xdi (by simp only [List.length_cons, List.length_nil]; omega), Xdi (by simp only [List.length_append, List.length_cons, List.length_nil]; omega), wkA]
       rfl
    by_cases h1 : (Xbr l[i]).2 = true
    ·
     rw [if_pos h1] at st ⊢
     by_cases h2 : x.length + 3 + (Xbr l[i]).1.size > 60000
     ·
      rw [if_pos h2] at st ⊢
      exact ⟨_, Xdy st, rfl⟩
     ·
      rw [if_neg h2] at st ⊢
      obtain ⟨o, ho, ho2⟩ := ih ((x ++ [0, 0, 1]) ++ Xac (Xbr l[i]).1) (by rw [List.length_append, List.length_append, hn, List.length_cons, List.length_cons, List.length_cons, List.length_nil]; omega)
      exact ⟨o, lgo st ho, ho2⟩
    ·
     rw [if_neg h1] at st ⊢
     exact ⟨_, Xdy st, rfl⟩
  obtain ⟨o, ho, ho2⟩ := key 0 (by omega) [] (by simp)
  refine (Xkw ho).trans ?_
  cases o <;> exact ho2
theorem Xtd (a : ByteArray) : (bnd (sel (Xbr (strOfNums (unL [] (Xac a)))).2 (some (!((Xbr (strOfNums (unL [] (Xac a)))).1.toList == a.toList))) (some true)) fun v13 => sel v13 (some ((⟨#[]⟩ : ByteArray), false)) (some ((strOfNums (unL [] (Xac a))), true))) = some (unV a) := by
 unfold unV
 by_cases h1 : (Xbr (strOfNums (unL [] (Xac a)))).2 = true
 ·
  rw [h1, Xe5, Xam, Xso]
  by_cases h2 : (Xbr (strOfNums (unL [] (Xac a)))).1 = a
  ·
   rw [if_pos (Prod.ext h2 h1), h2, Xck (by simp)]
  ·
   rw [if_neg (fun h => h2 (by rw [h])), Xbb (by rw [beq_eq_false_iff_ne]; exact fun h => h2 (Xlo.1 h))]
 ·
  rw [Xbb (by simpa using h1), Xam, Xe5, if_neg (fun h => h1 (by rw [h]))]
theorem Xh6 (a : ByteArray) (hs : a.size ≤ 60000) : Xb1 a = some (unV a) := by
 have hm : maxLen = 9223372036854775807 := rfl
 unfold Xb1
 rw [snA]
 have hl := Xag a
 have key : ∀ i : Nat, i ≤ a.size → ∀ o : List Int, o.length ≤ i → loop (Xa3 a) ((i : Int), o) = some (o ++ unL ((Xac a).take i) ((Xac a).drop i)) := by
  refine Xdc _ ?_ ?_
  ·
   intro o ho
   rw [List.drop_eq_nil_of_le (by omega), unL, List.append_nil]
   exact Xdy (by unfold Xa3; rw [Xbf (by simp)])
  ·
   intro i hi ih o ho
   rw [Xpm a i hi]
   have ht := Xrq ((Xac a).take i)
   have htl : ((Xac a).take i).length = i := by rw [List.length_take]; omega
   rw [htl] at ht
   have hc : (sel (decide ((i : Int) ≥ 2)) (
     req (0 ≤ (i : Int) ∧ (i : Int) < a.size) <|
     sel ((Xbu a i) == 3) (
     req (0 ≤ (Xah .i64 ((i : Int) - 1)) ∧ (Xah .i64 ((i : Int) - 1)) < a.size) <|
     sel ((Xbu a (Xah .i64 ((i : Int) - 1))) == 0) (
     req (0 ≤ (Xah .i64 ((i : Int) - 2)) ∧ (Xah .i64 ((i : Int) - 2)) < a.size) <|
     some ((Xbu a (Xah .i64 ((i : Int) - 2))) == 0)) (
     some false)) (
     some false)) (
     some false)) = some (decide (Xbu a i = 3 ∧ 2 ≤ tz ((Xac a).take i))) := by
    rw [wkA (e := (i : Int) - 1), wkA (e := (i : Int) - 2)]
    by_cases h2 : (i : Int) ≥ 2
    ·
     rw [Xoc _ _ _ (by omega), Xoc _ _ _ (by omega), Xdh, Xdh] at ht
     rw [Xbq h2, rqA, rqA, rqA]
     by_cases h3 : Xbu a i = 3
     ·
      rw [Xck (by simpa using h3)]
      by_cases h4 : Xbu a ((i : Int) - 1) = 0
      ·
       rw [Xck (by simpa using h4), Xtl]
       congr 1; rw [decide_eq_decide]
       exact ⟨fun h5 => ⟨h3, ht.2 ⟨by omega, h4, h5⟩⟩, fun h => (ht.1 h.2).2.2⟩
      ·
       rw [Xbb (by simpa using h4), decide_eq_false (fun h => h4 (ht.1 h.2).2.1)]
     ·
      rw [Xbb (by simpa using h3), decide_eq_false (fun h => h3 h.1)]
    ·
     rw [Xbf h2, decide_eq_false (fun h => by have := (ht.1 h.2).1; omega)]
   by_cases hp : Xbu a i = 3 ∧ 2 ≤ tz ((Xac a).take i)
   ·
    rw [if_pos hp, List.nil_append]
    refine lgo (y := (((i + 1 : Nat) : Int), o)) ?_ (ih o (by omega))
    unfold Xa3
    simp only
    rw [syA, hc, Xam, Xbq hp, Xam, wkA]
    rfl
   ·
    rw [if_neg hp, ← List.append_assoc]
    refine lgo (y := (((i + 1 : Nat) : Int), o ++ [Xbu a i])) ?_ (ih _ (by simp; omega))
    unfold Xa3
    simp only
    rw [syA, hc, Xam, Xbf hp, rqA, Xdi (by simp only [List.length_singleton]; omega), Xam, wkA]
    rfl
 refine (Xkw (key 0 (by omega) [] (by simp))).trans ?_
 rw [List.take_zero, List.drop_zero, List.nil_append]
 have hb := Xfp (Xac a) []
 rw [Xff _ (by rw [strOfNums_size]; omega), Xam]
 exact Xtd a
theorem Xhj (a : ByteArray) (hs : a.size ≤ 60000) : Xcc a = some (unV a) := by
 have hm : maxLen = 9223372036854775807 := rfl
 unfold Xcc
 rw [rqA]
 have hl := Xag a
 have key : ∀ i : Nat, i ≤ a.size → ∀ o : List Int, o.length ≤ i → loop (Xa2 a) ((tz ((Xac a).take i) : Int), (i : Int), o) = some (o ++ unL ((Xac a).take i) ((Xac a).drop i)) := by
  refine Xdc _ ?_ ?_
  ·
   intro o ho
   rw [List.drop_eq_nil_of_le (by omega), unL, List.append_nil]
   exact Xdy (by unfold Xa2; rw [Xbf (by simp)])
  ·
   intro i hi ih o ho
   rw [Xpm a i hi]
   have htl : ((Xac a).take i).length = i := by rw [List.length_take]; omega
   have hz := Xt9 ((Xac a).take i)
   have hz1 : tz ((Xac a).take (i + 1)) = if Xbu a i = 0 then tz ((Xac a).take i) + 1 else 0 := by
    rw [Xda _ _ (by omega), Xdh]
    split
    ·
     rename_i h0; rw [h0, Xkp]
    ·
     rename_i h0; rw [Xol _ _ h0]
   have hc : (sel (decide ((tz ((Xac a).take i) : Int) ≥ 2)) (
     req (0 ≤ (i : Int) ∧ (i : Int) < a.size) <|
     some ((Xbu a i) == 3)) (
     some false)) = some (decide (Xbu a i = 3 ∧ 2 ≤ tz ((Xac a).take i))) := by
    rw [rqA, Xe2]
    congr 1
    rw [Bool.eq_iff_iff]
    simp only [Bool.and_eq_true, decide_eq_true_eq, beq_iff_eq]
    omega
   by_cases hp : Xbu a i = 3 ∧ 2 ≤ tz ((Xac a).take i)
   ·
    rw [if_pos hp, List.nil_append]
    refine lgo (y := ((tz ((Xac a).take (i + 1)) : Int), ((i + 1 : Nat) : Int), o)) ?_ (ih o (by omega))
    rw [hz1, if_neg (by omega)]
    unfold Xa2 Xsi
    simp only
    rw [syA, hc, Xam, Xbq hp, Xam, wkA]
    rfl
   ·
    rw [if_neg hp, ← List.append_assoc]
    refine lgo (y := ((tz ((Xac a).take (i + 1)) : Int), ((i + 1 : Nat) : Int), o ++ [Xbu a i])) ?_ (ih _ (by simp; omega))
    rw [hz1]
    unfold Xa2 Xsi
    simp only
    rw [syA, hc, Xam, Xbf hp, rqA]
    by_cases h0 : Xbu a i = 0
    ·
     rw [Xck (by simpa using h0), if_pos h0, rqA, Xdi (by simp only [List.length_singleton]; omega), Xam, wkA (e := (i : Int) + 1), wkA]
     rfl
    ·
     rw [Xbb (by simpa using h0), if_neg h0, rqA, Xdi (by simp only [List.length_singleton]; omega), Xam, wkA (e := (i : Int) + 1)]
     rfl
 refine (Xkw (key 0 (by omega) [] (by simp))).trans ?_
 rw [List.take_zero, List.drop_zero, List.nil_append]
 have hb := Xfp (Xac a) []
 rw [Xe9 _ (by rw [strOfNums_size]; omega), Xam]
 exact Xtd a
theorem Xu1 {g : Option (List ByteArray × Bool)} (s : ByteArray) (hA : ∀ l, Xib l = (s, true) → g = some (l, true)) (hB : ∃ r, g = some r ∧ (r = ([], false) ∨ r.2 = true ∧ Xib r.1 = (s, true))) : g = some (uV s) := by
 rcases Xsw s with ⟨l, h1, e⟩ | ⟨hn, e⟩
 ·
  rw [e]; exact hA l h1
 ·
  rw [e]
  obtain ⟨r, hr, h | h⟩ := hB
  ·
   rw [← h]; exact hr
  ·
   exact absurd ⟨r.1, h.2⟩ hn
theorem Xk1 (s : ByteArray) (hs : s.size ≤ 60000) : Xdv s = some (Xcj 0 (Xac s)) := by
 have hm : maxLen = 9223372036854775807 := rfl
 unfold Xdv
 have hl := Xag s
 have key : ∀ i : Nat, i ≤ s.size → ∀ x : List Int, x.length ≤ i → loop (Xbh s) ((i : Int), x) = some (x ++ Xcj i ((Xac s).drop i)) := by
  refine Xdc _ ?_ ?_
  ·
   intro x _
   rw [List.drop_eq_nil_of_le (by omega), Xcj, List.append_nil]
   exact Xdy (by unfold Xbh; simp only; rw [wkA, snA])
  ·
   intro i hi ih x hx
   by_cases h3 : i + 3 ≤ s.size
   ·
    have e3 : Xah .i64 ((i : Int) + 3) = ((i + 3 : Nat) : Int) := by rw [wkA]; omega
    have hh := Xun s i h3
    have st : ∀ b : Bool, ((s.extract i (i + 3)).toList == (⟨#[0, 0, 1]⟩ : ByteArray).toList) = b → Xbh s ((i : Int), x) = some (.go (((i + 1 : Nat) : Int), if b = true then x ++ [(i : Int)] else x)) := by
     intro b hb
     unfold Xbh
     simp only
     rw [e3, syA, rqA, Int.toNat_natCast, Int.toNat_natCast, hb, wkA]
     cases b with
     | true => rw [Xe5, Xdi (by simp only [List.length_singleton]; omega), Xam]; rfl
     | false => rw [Xgx, Xam]; rfl
    rw [Xd9 _ _ (by omega)] at hh ⊢
    rw [Xcj]
    by_cases h : (s.extract i (i + 3)).toList = ([0, 0, 1] : List UInt8)
    ·
     rw [if_pos (hh.1 h)]
     have := ih (x ++ [(i : Int)]) (by simp; omega)
     rw [List.append_assoc] at this
     exact lgo (st true (by rw [h, ByteArray.toList_eq]; rfl)) this
    ·
     rw [if_neg (fun h' => h (hh.2 h'))]
     exact lgo (st false (by rw [beq_eq_false_iff_ne, ByteArray.toList_eq (⟨#[0, 0, 1]⟩ : ByteArray)]; exact h)) (ih x (by omega))
   ·
    rw [Xp2 _ _ (by rw [List.length_drop]; omega), List.append_nil]
    exact Xdy (by unfold Xbh; simp only; rw [wkA, snA])
 exact (Xkw (key 0 (by omega) [] (by simp))).trans rfl
noncomputable def Xul (s : ByteArray) (o : Ou (List ByteArray) (List ByteArray × Bool)) : Option (List ByteArray × Bool) := match o with
 | .out v7 => (
  bnd (Xcx v7) fun q10 =>
  bnd (
  sel q10.2 (
  some (!(q10.1.toList == s.toList))) (
  some true)) fun v11 =>
  sel v11 (
  some (([] : List ByteArray), false)) (
  some (v7, true)))
 | .ret r => some r
theorem Xor (v : List ByteArray) (s : ByteArray) : (bnd (sel (Xib v).2 (some (!((Xib v).1.toList == s.toList))) (some true)) fun v11 => sel v11 (some (([] : List ByteArray), false)) (some (v, true))) = some (Xqb v s) := by
 unfold Xqb
 by_cases h1 : (Xib v).2 = true
 ·
  rw [if_pos h1, h1, Xe5, Xam, Xso]
  by_cases h2 : (Xib v).1.toList = s.toList
  ·
   rw [if_pos h2, Xck (by simpa using h2)]
  ·
   rw [if_neg h2, Xbb (by simpa using h2)]
 ·
  rw [if_neg h1, Xbb (by simpa using h1), Xam, Xe5]
theorem Xot (s : ByteArray) (v : List ByteArray) (hv : ∀ u ∈ v, u.size ≤ 60000) : Xul s (.out v) = some (Xqb v s) := by
 unfold Xul
 simp only
 rw [Xkz v (fun u hu => by have := hv u hu; omega), Xam]
 exact Xor v s
def Xtv (s : ByteArray) (q1 : List Int) (v : Int × List ByteArray) (r : List ByteArray × Bool) : Prop := ∃ o, loop (Xap s q1) v = some o ∧ Xul s o = some r
theorem Xre {s : ByteArray} {q1 : List Int} {v v' : Int × List ByteArray} {r : List ByteArray × Bool} (h : Xap s q1 v = some (.go v')) (k : Xtv s q1 v' r) : Xtv s q1 v r := by
 obtain ⟨o, h1, h2⟩ := k
 exact ⟨o, lgo h h1, h2⟩
theorem Xj8 {s : ByteArray} {q1 : List Int} {v : Int × List ByteArray} {r : List ByteArray × Bool} {o : Ou (List ByteArray) (List ByteArray × Bool)} (h : Xap s q1 v = some (.done o)) (k : Xul s o = some r) : Xtv s q1 v r := ⟨o, Xdy h, k⟩
theorem Xrt (s : ByteArray) (q1 P : List Int) (hP : q1 ++ [(s.size : Int)] = P) (i : Nat) (x : List ByteArray) (hi : P.length ≤ i + 1) (hi2 : i ≤ 100000) : Xap s q1 ((i : Int), x) = some (.done (.out x)) := by
 unfold Xap
 simp only [hP]
 rw [wkA (e := (i : Int) + 1), snA]
theorem Xte (s : ByteArray) (hs : s.size ≤ 60000) (q1 P : List Int) (hP : q1 ++ [(s.size : Int)] = P) (i : Nat) (x : List ByteArray) (hi : i + 1 < P.length) (hi2 : i ≤ 100000) (hx : x.length ≤ 100000) (a b : Int) (ha : rd P i = a) (hb : rd P ((i + 1 : Nat) : Int) = b) (a0 : 0 ≤ a) (ab : a + 3 ≤ b) (bs : b ≤ s.size) :
  Xap s q1 ((i : Int), x) = if (unV (s.extract (a + 3).toNat b.toNat)).2 = true then some (.go (((i + 1 : Nat) : Int), x ++ [(unV (s.extract (a + 3).toNat b.toNat)).1])) else some (.done (.ret ([], false))) := by
 have hm : maxLen = 9223372036854775807 := rfl
 have eX : (s.extract (a + 3).toNat b.toNat).size ≤ 60000 := by rw [ByteArray.size_extract]; omega
 unfold Xap
 simp only [hP]
 rw [wkA (e := (i : Int) + 1), show (i : Int) + 1 = ((i + 1 : Nat) : Int) by omega, syA, rqA, rqA, rqA, rqA, Xpa, Xpa, ha, hb, wkA (e := a + 3), rqA, Xhj _ eX, Xam]
 cases h : (unV (s.extract (a + 3).toNat b.toNat)).2 with
 | true => rw [if_pos rfl, Bool.not_true, Xgx, Xdi (by simp only [List.length_singleton]; omega)]
 | false => rw [if_neg (by simp)]; rfl
theorem Xhk (s : ByteArray) (hs : s.size ≤ 60000) (q1 P : List Int) (eP : q1 ++ [(s.size : Int)] = P) (hP : P.length ≤ 60001) : ∀ i, i ≤ P.length → 1 ≤ P.length → (∀ t p, P.drop i = t → 0 ≤ p → (∃ q, t = q ++ [(s.size : Int)] ∧ Xgi s.size p q) ∨ t = [] → ∀ x : List ByteArray, x.length ≤ i → (∀ u ∈ x, u.size ≤ 60000) → ∃ r, Xtv s q1 ((i : Int), x) r ∧ (r = ([], false) ∨ r.2 = true ∧ Xib r.1 = (s, true))) := by
 have fin : ∀ (i : Nat) (x : List ByteArray), i ≤ P.length → P.length ≤ i + 1 → (∀ u ∈ x, u.size ≤ 60000) → ∃ r, Xtv s q1 ((i : Int), x) r ∧ (r = ([], false) ∨ r.2 = true ∧ Xib r.1 = (s, true)) := by
  intro i x hi hi2 hx
  exact ⟨Xqb x s, Xj8 (Xrt s q1 P eP i x hi2 (by omega)) (Xot s x hx), Xqo x s⟩
 refine Xdc _ ?_ ?_
 ·
  intro _ t p ht hp hc x hx hxs
  exact fin _ x (Nat.le_refl _) (by omega) hxs
 ·
  intro i hi ih h1 t p ht hp hc x hx hxs
  rw [Xd9 P i hi] at ht
  by_cases h2 : i + 1 < P.length
  ·
   rw [Xd9 P (i + 1) h2] at ht
   obtain ⟨q, hq, hch⟩ : ∃ q, t = q ++ [(s.size : Int)] ∧ Xgi s.size p q := by
    rcases hc with hc | hc
    ·
     exact hc
    ·
     rw [hc] at ht; simp at ht
   match q, hq, hch with
   | [], hq, _ => rw [hq] at ht; simp at ht
   | a :: q', hq, hch =>
    obtain ⟨hpa, hch'⟩ := hch
    rw [hq, List.cons_append, List.cons.injEq] at ht
    obtain ⟨e1, e2⟩ := ht
    have hb : a + 3 ≤ rd P ((i + 1 : Nat) : Int) ∧ rd P ((i + 1 : Nat) : Int) ≤ s.size := by
     match q', e2, hch' with
     | [], e2, hch' => rw [List.nil_append, List.cons.injEq] at e2; simp [Xgi] at hch'; omega
     | b :: q'', e2, hch' =>
      rw [List.cons_append, List.cons.injEq] at e2
      have hbn : ∀ (t : List Int) (p : Int), Xgi (s.size : Int) p t → p ≤ s.size := by
       intro t
       induction t with
       | nil => intro p h; exact h
       | cons c t iht => intro p h; have := iht _ h.2; have := h.1; omega
      have := hbn _ _ hch'.2
      have := hch'.1
      omega
    have eX : (s.extract (a + 3).toNat (rd P ((i + 1 : Nat) : Int)).toNat).size ≤ 60000 := by rw [ByteArray.size_extract]; omega
    have hih := fun x' hx' hxs' => ih h1 (q' ++ [(s.size : Int)]) (a + 3) (by rw [← e2, Xd9 P (i + 1) h2]) (by omega) (Or.inl ⟨q', rfl, hch'⟩) x' hx' hxs'
    have st := Xte s hs q1 P eP i x h2 (by omega) (by omega) a _ e1 rfl (by omega) hb.1 hb.2
    by_cases ho : (unV (s.extract (a + 3).toNat (rd P ((i + 1 : Nat) : Int)).toNat)).2 = true
    ·
     rw [if_pos ho] at st
     obtain ⟨r, hr, hr2⟩ := hih (x ++ [(unV (s.extract (a + 3).toNat (rd P ((i + 1 : Nat) : Int)).toNat)).1]) (by simp; omega) (by
      intro u hu
      rw [List.mem_append] at hu
      rcases hu with hu | hu
      ·
       exact hxs u hu
      ·
       rw [List.mem_singleton] at hu; rw [hu]; exact Xpn _ eX)
     exact ⟨r, Xre st hr, hr2⟩
    ·
     rw [if_neg ho] at st
     exact ⟨([], false), Xj8 st rfl, Or.inl rfl⟩
  ·
   exact fin i x (by omega) (by omega) hxs
theorem Xjv (s : ByteArray) (hs : s.size ≤ 60000) (q1 P : List Int) (eP : q1 ++ [(s.size : Int)] = P) (hP : P.length ≤ 60001) (l : List ByteArray) (hf : Xib l = (s, true)) :
  ∀ (us : List ByteArray) (p i : Nat) (x : List ByteArray), (∀ u ∈ us, (Xbr u).2 = true) → P.drop i = Xta p us ++ [(s.size : Int)] → (Xac s).drop p = frB us → x ++ us = l → Xtv s q1 ((i : Int), x) (l, true) := by
 obtain ⟨_, he, hl4, _⟩ := Xgm l s hf
 intro us
 induction us with
 | nil =>
  intro p i x _ hd _ hx
  rw [List.append_nil] at hx
  rw [hx]
  have hi : i + 1 = P.length := by have := congrArg List.length hd; simp [Xta] at this; omega
  refine Xj8 (Xrt s q1 P eP i l (by omega) (by omega)) ?_
  rw [Xot s l (fun u hu => (Xfi u (he u hu)).2.2.1), Xmx l s hf]
 | cons u us ih =>
  intro p i x hu hd hb hx
  have hu0 := hu u (List.mem_cons_self)
  rw [frB] at hb
  obtain ⟨c1, c2, c3⟩ := Xmu s u _ p hb
  have hE := (Xgk u hu0).1
  rw [Xta, List.cons_append] at hd
  have hi : i < P.length := by
   rcases Nat.lt_or_ge i P.length with h | h
   ·
    exact h
   ·
    rw [List.drop_eq_nil_of_le h] at hd; simp at hd
  rw [Xd9 P i hi, List.cons.injEq] at hd
  obtain ⟨hd1, hd2⟩ := hd
  have hi2 : i + 1 < P.length := by
   rcases Nat.lt_or_ge (i + 1) P.length with h | h
   ·
    exact h
   ·
    rw [List.drop_eq_nil_of_le h] at hd2; simp at hd2
  have hq : rd P ((i + 1 : Nat) : Int) = (p : Int) + 3 + ((Xbr u).1.size : Int) := by
   have hd3 := hd2
   rw [Xd9 P (i + 1) hi2] at hd3
   cases us with
   | nil =>
    rw [Xta, List.nil_append, List.cons.injEq] at hd3
    simp [frB] at c3
    omega
   | cons v vs =>
    rw [Xta, List.cons_append, List.cons.injEq] at hd3
    exact hd3.1
  have hxl : x.length ≤ 400 := by rw [← hx, List.length_append] at hl4; omega
  have st := Xte s hs q1 P eP i x hi2 (by omega) (by omega) p _ hd1 hq (by omega) (by omega) (by omega)
  rw [show ((p : Int) + 3).toNat = p + 3 by omega, show ((p : Int) + 3 + ((Xbr u).1.size : Int)).toNat = p + 3 + (Xbr u).1.size by omega, c1, Xrs u hu0, if_pos rfl] at st
  refine Xre st ?_
  exact ih (p + 3 + (Xbr u).1.size) (i + 1) (x ++ [u]) (fun v hv => hu v (List.mem_cons_of_mem _ hv)) (by rw [hd2]; simp) c2 (by rw [← hx]; simp)
theorem Xin (s : ByteArray) (hs : s.size ≤ 60000) : Xcp s = some (uV s) := by
 have hm : maxLen = 9223372036854775807 := rfl
 unfold Xcp
 rw [snA, Xk1 s hs, Xam]
 have hl := Xag s
 have hc := Xoe (Xac s).length (Xac s) 0 (Nat.le_refl _)
 have hlen : (Xcj 0 (Xac s)).length ≤ 60000 := by
  have : ∀ (L : List Int) (p : Int), (Xcj p L).length ≤ L.length := by
   intro L
   induction L with
   | nil => intro p; simp [Xcj]
   | cons c r ih => intro p; have := ih (p + 1); rw [Xcj]; split <;> simp <;> omega
  have := this (Xac s) 0
  omega
 rw [Xdi (by simp only [List.length_singleton]; omega)]
 have fin : ∀ r, Xtv s (Xcj 0 (Xac s)) (0, []) r → (bnd (loop (Xap s (Xcj 0 (Xac s))) (0, ([] : List ByteArray))) fun o9 => Xul s o9) = some r := by
  intro r ⟨o, h1, h2⟩
  exact (Xkw h1).trans h2
 refine Xu1 s (fun l hf => ?_) ?_
 ·
  obtain ⟨e1, e2, _, _⟩ := Xgm l s hf
  have := Xpg l 0 e2
  rw [← e1] at this
  exact fin _ (Xjv s hs _ _ rfl (by simp; omega) l hf l 0 0 [] e2 (by rw [this]; rfl) (by rw [e1]; rfl) rfl)
 ·
  obtain ⟨r, hr, h2⟩ := Xhk s hs _ _ rfl (by simp; omega) 0 (by simp) (by simp) _ 0 rfl (by omega) (Or.inl ⟨_, List.drop_zero .., by rw [hl, Int.zero_add] at hc; exact hc⟩) [] (by simp) (by simp)
  exact ⟨r, fin _ hr, h2⟩
noncomputable def Xgj (s : ByteArray) (v17 : Int × Int × List ByteArray) : Option (List ByteArray) :=
 bnd (
 bnd (
 sel (decide (v17.1 ≥ 0)) (
 some (decide (v17.1 ≤ v17.2.1))) (
 some false)) fun v39 =>
 sel v39 (
 bnd (loop (Xaq s v17) v17.2.1) fun v45 =>
 req (0 ≤ v17.1 ∧ v17.1 ≤ v45 ∧ v45 ≤ (s.size : Int)) <|
 bnd (Xb1 (s.extract v17.1.toNat v45.toNat)) fun q48 =>
 bnd (
 sel q48.2 (
 some (decide ((v17.2.2.length : Int) < 400))) (
 some false)) fun v49 =>
 sel v49 (
 req ((v17.2.2.length + ([q48.1]).length) * 16 ≤ 140737488355328 ∧ v17.2.2.length + ([q48.1]).length ≤ maxLen) <|
 some (v17.2.2 ++ ([q48.1]))) (
 some v17.2.2)) (
 some v17.2.2)) fun v38 => some v38
theorem Xtm (z : Option (List ByteArray)) (c j : Int) : (bnd (bnd z fun v => some (c, v)) fun w => some (Lp.go (w.1, j, w.2)) : Option (Lp (Int × Int × List ByteArray) (List ByteArray))) = bnd (bnd z fun v => some v) fun y => some (Lp.go (c, j, y)) := by cases z <;> rfl
theorem Xfq (s : ByteArray) (hs : s.size ≤ 60000) (b : Int) (i : Nat) (x : List ByteArray) (hi : i ≤ s.size) :
  Xan s (b, (i : Int), x) = if Xg4 ((Xac s).drop i) ∨ i = s.size then bnd (Xgj s (b, (i : Int), x)) (fun y => some (.go ((i : Int) + 3, ((i + 1 : Nat) : Int), y))) else some (.go (b, ((i + 1 : Nat) : Int), x)) := by
 have hl := Xag s
 have hh : Xg4 ((Xac s).drop i) ↔ Xbu s i = 0 ∧ Xbu s ((i : Int) + 1) = 0 ∧ Xbu s ((i : Int) + 2) = 1 := by
  unfold Xg4
  rw [Xc4 _ _ _ (by omega), Xc4 _ _ _ (by omega), Xc4 _ _ _ (by omega), Int.add_zero, Xdh, Xdh, Xdh]
 have hc : (sel (decide ((Xah .i64 ((i : Int) + 2)) < (s.size : Int))) (
   req (0 ≤ (i : Int) ∧ (i : Int) < s.size) <|
   sel ((Xbu s i) == 0) (
   req (0 ≤ (Xah .i64 ((i : Int) + 1)) ∧ (Xah .i64 ((i : Int) + 1)) < s.size) <|
   sel ((Xbu s (Xah .i64 ((i : Int) + 1))) == 0) (
   req (0 ≤ (Xah .i64 ((i : Int) + 2)) ∧ (Xah .i64 ((i : Int) + 2)) < s.size) <|
   some ((Xbu s (Xah .i64 ((i : Int) + 2))) == 1)) (
   some false)) (
   some false)) (
   some false)) = some (decide (Xg4 ((Xac s).drop i))) := by
  rw [wkA (e := (i : Int) + 1), wkA (e := (i : Int) + 2)]
  by_cases h1 : (i : Int) + 2 < s.size
  ·
   rw [Xbq h1, rqA, rqA, rqA, Xe2, Xe2]
   congr 1
   rw [Bool.eq_iff_iff]
   simp only [Bool.and_eq_true, decide_eq_true_eq, beq_iff_eq]
   exact hh.symm
  ·
   rw [Xbf h1, decide_eq_false (fun h => ?_)]
   have := (hh.1 h).2.2
   rw [← Xdh, Xtw _ _ (by omega)] at this
   omega
 unfold Xan
 simp only
 rw [syA, hc, Xam, wkA (e := (i : Int) + 1), wkA (e := (i : Int) + 3)]
 have hv : sel (decide (Xg4 ((Xac s).drop i))) (some false) (some (decide ((i : Int) < (s.size : Int)))) = some (!decide (Xg4 ((Xac s).drop i) ∨ i = s.size)) := by
  rw [Xsp]
  refine congrArg some ?_
  rw [Bool.eq_iff_iff]
  simp only [Bool.and_eq_true, Bool.not_eq_true', decide_eq_true_eq, decide_eq_false_iff_not]
  constructor
  ·
   intro ⟨g1, g2⟩ g
   rcases g with g | g
   ·
    exact g1 g
   ·
    omega
  ·
   intro g
   refine ⟨fun g1 => g (Or.inl g1), ?_⟩
   have : ¬ i = s.size := fun g1 => g (Or.inr g1)
   omega
 rw [hv, Xam, Xso, Xuu]
 by_cases hp : Xg4 ((Xac s).drop i) ∨ i = s.size
 ·
  rw [if_pos hp, if_pos hp]
  have e1 : ((i + 1 : Nat) : Int) = (i : Int) + 1 := by omega
  rw [e1]
  unfold Xgj
  simp only
  exact Xtm _ _ _
 ·
  rw [if_neg hp, if_neg hp, Xam]
  rfl
theorem Xlp (s : ByteArray) (b : Int) (x : List ByteArray) : Xan s (b, ((s.size + 1 : Nat) : Int), x) = some (.done x) := by
 unfold Xan
 rw [Xbf (by simp only; omega)]
theorem Xtq (s : ByteArray) (b i : Int) (x : List ByteArray) (h0 : 0 ≤ b) : ∀ e : Int, b ≤ e → e ≤ s.size → (s.size : Int) ≤ 60000 → ∃ e', loop (Xaq s (b, i, x)) e = some e' ∧ b ≤ e' ∧ e' ≤ e := by
 intro e h1 h2 h3
 refine Xo7 (f := Xaq s (b, i, x)) (fun v => b ≤ v ∧ v ≤ s.size) (fun v => (v - b).toNat) (fun v o => b ≤ o ∧ o ≤ v) ?_ e ⟨h1, h2⟩
 intro v ⟨g1, g2⟩
 unfold Xaq
 simp only
 by_cases hv : v > b
 ·
  rw [Xbq hv, wkA (e := v - 1), rqA, Xam]
  cases (Xbu s (v - 1) == 0) with
  | true => exact .inr ⟨_, rfl, by omega, by omega, fun o ho => by omega⟩
  | false => exact .inl ⟨_, rfl, by omega⟩
 ·
  rw [Xbf hv, Xam, Xgx]
  exact .inl ⟨_, rfl, by omega⟩
theorem Xmw (s : ByteArray) (b i : Int) (x : List ByteArray) (h : ¬ (0 ≤ b ∧ b ≤ i)) : Xgj s (b, i, x) = some x := by
 unfold Xgj
 simp only
 rw [Xe2, Xam, Xbb (by rw [Bool.eq_false_iff]; simp only [ne_eq, Bool.and_eq_true, decide_eq_true_eq]; omega), Xam]
theorem Xmv (s : ByteArray) (hs : s.size ≤ 60000) (b i e : Int) (x : List ByteArray) (hx : x.length ≤ 400) (h0 : 0 ≤ b) (h1 : b ≤ i) (he : loop (Xaq s (b, i, x)) i = some e) (h2 : b ≤ e) (h3 : e ≤ s.size) :
  Xgj s (b, i, x) = some (if (unV (s.extract b.toNat e.toNat)).2 = true ∧ x.length < 400 then x ++ [(unV (s.extract b.toNat e.toNat)).1] else x) := by
 have hm : maxLen = 9223372036854775807 := rfl
 unfold Xgj
 simp only
 rw [Xe2, Xam, Xck (by simp only [Bool.and_eq_true, decide_eq_true_eq]; omega), he, Xam, rqA, Xh6 _ (by rw [ByteArray.size_extract]; omega), Xam, Xe2, Xam]
 by_cases hp : (unV (s.extract b.toNat e.toNat)).2 = true ∧ x.length < 400
 ·
  rw [if_pos hp, Xck (by rw [Bool.and_eq_true, decide_eq_true_eq]; exact ⟨hp.1, by omega⟩), Xdi (by simp only [List.length_singleton]; omega), Xam]
 ·
  rw [if_neg hp, Xbb (by rw [Bool.eq_false_iff]; simp only [ne_eq, Bool.and_eq_true, decide_eq_true_eq]; exact fun h => hp ⟨h.1, by omega⟩), Xam]
theorem Xpp (s : ByteArray) (hs : s.size ≤ 60000) (b : Int) (i : Nat) (x : List ByteArray) (hi : i ≤ s.size) (hx : x.length ≤ 400) (hxs : ∀ u ∈ x, u.size ≤ 60000) : ∃ y, Xgj s (b, (i : Int), x) = some y ∧ y.length ≤ 400 ∧ ∀ u ∈ y, u.size ≤ 60000 := by
 by_cases hb : 0 ≤ b ∧ b ≤ (i : Int)
 ·
  obtain ⟨e, he, h1, h2⟩ := Xtq s b i x hb.1 i hb.2 (by omega) (by omega)
  refine ⟨_, Xmv s hs b i e x hx hb.1 hb.2 he h1 (by omega), ?_, ?_⟩
  ·
   split
   ·
    simp; omega
   ·
    exact hx
  ·
   intro u hu
   split at hu
   ·
    rw [List.mem_append] at hu
    rcases hu with hu | hu
    ·
     exact hxs u hu
    ·
     rw [List.mem_singleton] at hu; rw [hu]; exact Xpn _ (by rw [ByteArray.size_extract]; omega)
   ·
    exact hxs u hu
 ·
  exact ⟨x, Xmw s b i x hb, hx, hxs⟩
theorem Xpq (s : ByteArray) (hs : s.size ≤ 60000) (x : List ByteArray) (hx : x.length < 400) (u : ByteArray) (hu : (Xbr u).2 = true) (b i : Nat) (hb : b + (Xbr u).1.size = i) (hi : i ≤ s.size) (hc : s.extract b i = (Xbr u).1) : Xgj s ((b : Int), (i : Int), x) = some (x ++ [u]) := by
 obtain ⟨h1, _, h3⟩ := Xgk u hu
 have hl : Xbu s ((i : Int) - 1) ≠ 0 := by
  rw [← hc, Xek, hc, Xc4 _ _ _ (by omega), Xoc _ _ _ (by omega), Xdh] at h3
  rwa [show (b : Int) + (((Xbr u).1.size : Int) - 1) = (i : Int) - 1 by omega] at h3
 have he : loop (Xaq s ((b : Int), (i : Int), x)) (i : Int) = some (i : Int) := by
  refine Xdy ?_
  unfold Xaq
  simp only
  rw [syA, wkA (e := (i : Int) - 1), rqA, Xam, Xbb (by simpa using hl)]
 rw [Xmv s hs b i i x (by omega) (by omega) (by omega) he (by omega) (by omega), Int.toNat_natCast, Int.toNat_natCast, hc, Xrs u hu, if_pos ⟨rfl, hx⟩]
theorem Xru (s : ByteArray) (hs : s.size ≤ 60000) : ∀ i : Nat, i ≤ s.size + 1 → ∀ (x : List ByteArray) (b : Int), x.length ≤ 400 → (∀ u ∈ x, u.size ≤ 60000) → ∃ r, loop (Xan s) (b, (i : Int), x) = some r ∧ ∀ u ∈ r, u.size ≤ 60000 := by
 refine Xdc _ ?_ ?_
 ·
  intro x b hx hxs
  exact ⟨x, Xdy (Xlp s b x), hxs⟩
 ·
  intro i hi ih x b hx hxs
  have st := Xfq s hs b i x (by omega)
  by_cases hh : Xg4 ((Xac s).drop i) ∨ i = s.size
  ·
   obtain ⟨y, y1, y2, y3⟩ := Xpp s hs b i x (by omega) hx hxs
   rw [if_pos hh, y1, Xam] at st
   obtain ⟨r, hr, hr2⟩ := ih y _ y2 y3
   exact ⟨r, lgo st hr, hr2⟩
  ·
   rw [if_neg hh] at st
   obtain ⟨r, hr, hr2⟩ := ih x b hx hxs
   exact ⟨r, lgo st hr, hr2⟩
theorem Xnu (s : ByteArray) (hs : s.size ≤ 60000) (x : List ByteArray) (b : Int) (r : List ByteArray) (j : Nat) (hj : j ≤ s.size) (h : loop (Xan s) (b, (j : Int), x) = some r) : ∀ n i, i + n = j → (∀ m, i ≤ m → m < j → ¬ Xg4 ((Xac s).drop m)) → loop (Xan s) (b, (i : Int), x) = some r
 | 0, i, e, _ => by rw [show i = j by omega]; exact h
 | n + 1, i, e, hn => by
  have st := Xfq s hs b i x (by omega)
  rw [if_neg (fun h => by rcases h with h | h; exact hn i (Nat.le_refl _) (by omega) h; omega)] at st
  exact lgo st (Xnu s hs x b r j hj h n (i + 1) (by omega) (fun m h1 h2 => hn m (by omega) h2))
theorem Xub (s : ByteArray) (hs : s.size ≤ 60000) (l : List ByteArray) (hl4 : l.length ≤ 400) :
  ∀ (us : List ByteArray) (p : Nat) (x y : List ByteArray) (b : Int), p ≤ s.size → (∀ u ∈ us, (Xbr u).2 = true) → (Xac s).drop p = frB us → y ++ us = l → Xgj s (b, (p : Int), x) = some y → loop (Xan s) (b, (p : Int), x) = some l := by
 intro us
 induction us with
 | nil =>
  intro p x y b hp _ hb hy hc
  rw [List.append_nil] at hy
  have e := congrArg List.length hb
  rw [List.length_drop, Xag] at e
  simp [frB] at e
  have hps : p = s.size := by omega
  have st := Xfq s hs b p x hp
  rw [if_pos (Or.inr hps), hc, Xam] at st
  refine lgo st ?_
  rw [hps, hy]
  exact Xdy (Xlp s _ l)
 | cons u us ih =>
  intro p x y b hp hu hb hy hc
  have hu0 := hu u (List.mem_cons_self)
  rw [frB] at hb
  obtain ⟨c1, c2, c3⟩ := Xmu s u _ p hb
  have hE := (Xgk u hu0).1
  have hyl : y.length < 400 := by rw [← hy, List.length_append, List.length_cons] at hl4; omega
  have st := Xfq s hs b p x hp
  rw [if_pos (Or.inl (by rw [hb]; exact Xs6 _)), hc, Xam] at st
  refine lgo st ?_
  refine Xnu s hs y _ l (p + 3 + (Xbr u).1.size) (by omega) ?_ (2 + (Xbr u).1.size) (p + 1) (by omega) ?_
  ·
   refine ih (p + 3 + (Xbr u).1.size) y (y ++ [u]) _ (by omega) (fun v hv => hu v (List.mem_cons_of_mem _ hv)) c2 (by rw [← hy]; simp) ?_
   have := Xpq s hs y hyl u hu0 (p + 3) (p + 3 + (Xbr u).1.size) rfl (by omega) c1
   exact this
  ·
   intro m h1 h2 hh
   by_cases h3 : p + 3 ≤ m
   ·
    have := Xmz u hu0 (frB us) (m - (p + 3)) (by rw [Xag]; omega)
    refine this ?_
    have e : (Xac s).drop (p + 3) = Xac (Xbr u).1 ++ frB us := by rw [← List.drop_drop, hb]; rfl
    rw [← e, List.drop_drop, show p + 3 + (m - (p + 3)) = m by omega]
    exact hh
   ·
    have e : (Xac s).drop m = ([0, 0, 1] ++ (Xac (Xbr u).1 ++ frB us)).drop (m - p) := by rw [← hb, List.drop_drop, show p + (m - p) = m by omega]
    rw [e] at hh
    rcases (show m - p = 1 ∨ m - p = 2 by omega) with h4 | h4
    ·
     rw [h4] at hh; simp [Xg4, rd] at hh
    ·
     rw [h4] at hh; simp [Xg4, rd] at hh
theorem Xi4 (s : ByteArray) (hs : s.size ≤ 60000) : Xb6 s = some (uV s) := by
 have hE : ∀ r : List ByteArray, (∀ u ∈ r, u.size ≤ 60000) → loop (Xan s) ((-1), 0, []) = some r → Xb6 s = some (Xqb r s) := by
  intro r hr h
  unfold Xb6 Xec
  rw [snA, h, Xam, Xam, Xk6 r (fun u hu => by have := hr u hu; omega), Xam]
  exact Xor r s
 refine Xu1 s (fun l hf => ?_) ?_
 ·
  obtain ⟨e1, e2, e3, _⟩ := Xgm l s hf
  rw [← Xmx l s hf]
  exact hE l (fun u hu => (Xfi u (e2 u hu)).2.2.1) (Xub s hs l e3 l 0 [] [] (-1) (by omega) e2 (by rw [List.drop_zero, e1]) rfl (Xmw s _ _ _ (by omega)))
 ·
  obtain ⟨r, hr, hr2⟩ := Xru s hs 0 (by omega) [] (-1) (by simp) (by simp)
  exact ⟨Xqb r s, hE r hr2 hr, Xqo r s⟩
def Xoa (l : List Packet) (i : Int) : Bool :=
 Xds (l.getD i.toNat Xai) && ((l.getD i.toNat Xai).First == (i == 0)) && ((l.getD i.toNat Xai).Last == (i == (l.length : Int) - 1)) && (if i > 0 then (l.getD i.toNat Xai).Seq == Xgb (l.getD (i - 1).toNat Xai).Seq 1 else true)
theorem Xmj (l : List Packet) (i : Nat) (hi : i < l.length) (hl : l.length ≤ 60) (s : ByteArray) (hs : s.size ≤ 400 * i) :
  Xau l (s, (i : Int)) = if Xoa l i = true then some (.go (s ++ (l.getD i Xai).Bytes, ((i + 1 : Nat) : Int))) else some (.done (.ret ([], false))) := by
 unfold Xau Xoa
 simp only [Int.toNat_natCast]
 rw [wkA (e := (l.length : Int) - 1), wkA (e := (i : Int) - 1), wkA (e := (i : Int) + 1)]
 obtain ⟨p, hp⟩ : ∃ p, l.getD i Xai = p := ⟨_, rfl⟩
 obtain ⟨pq, hq⟩ : ∃ p, l.getD ((i : Int) - 1).toNat Xai = p := ⟨_, rfl⟩
 simp only [hp, hq]
 rw [syA, rqA, Xi0, Xam]
 obtain ⟨sq, f, la, b⟩ := p
 simp only
 cases h1 : Xds ⟨sq, f, la, b⟩ with
 | false => rfl
 | true =>
  have h1' := (Xfc _).1 h1
  simp only at h1'
  rw [Xe5, rqA]
  cases h2 : (f == ((i : Int) == 0)) with
  | false => rfl
  | true =>
   rw [Xe5, rqA, Xam]
   cases h3 : (la == ((i : Int) == (l.length : Int) - 1)) with
   | false => rfl
   | true =>
    rw [Bool.not_true, Xgx]
    by_cases h0 : (i : Int) > 0
    ·
     rw [Xbq h0, rqA, rqA, Xkm, Xam, Xam, if_pos h0, bne]
     cases h4 : (sq == Xgb pq.Seq 1) with
     | false => rfl
     | true =>
      rw [Bool.not_true, Xgx, rqA, rqA]
      rfl
    ·
     rw [Xbf h0, Xam, Xgx, if_neg h0, rqA, rqA]
     rfl
theorem Xl1 (l : List Packet) (i : Nat) (hi : i < l.length) (hl : l.length ≤ 60) (s : ByteArray) (hs : s.size ≤ 400 * i) :
  Xas l (s, (i : Int)) = if Xoa l i = true then some (.go (s ++ (l.getD i Xai).Bytes, ((i + 1 : Nat) : Int))) else some (.done (.ret ([], false))) := by
 unfold Xas Xoa
 simp only [Int.toNat_natCast]
 rw [wkA (e := (l.length : Int) - 1), wkA (e := (i : Int) - 1), wkA (e := (i : Int) + 1)]
 obtain ⟨p, hp⟩ : ∃ p, l.getD i Xai = p := ⟨_, rfl⟩
 obtain ⟨pq, hq⟩ : ∃ p, l.getD ((i : Int) - 1).toNat Xai = p := ⟨_, rfl⟩
 simp only [hp, hq]
 rw [syA, rqA, Xij, Xam]
 obtain ⟨sq, f, la, b⟩ := p
 simp only
 cases h1 : Xds ⟨sq, f, la, b⟩ with
 | false => rfl
 | true =>
  have h1' := (Xfc _).1 h1
  simp only at h1'
  rw [Xe5]
  cases h2 : (f == ((i : Int) == 0)) with
  | false => rfl
  | true =>
   rw [Xe5]
   cases h3 : (la == ((i : Int) == (l.length : Int) - 1)) with
   | false => rfl
   | true =>
    rw [Xe5]
    by_cases h0 : (i : Int) > 0
    ·
     rw [Xbq h0, rqA, Xju, Xam, Xam, if_pos h0, bne]
     cases h4 : (sq == Xgb pq.Seq 1) with
     | false => rfl
     | true =>
      rw [Bool.not_true, Xgx, rqA]
      rfl
    ·
     rw [Xbf h0, Xam, Xgx, if_neg h0, rqA]
     rfl
theorem Xpx {l : List Packet} {i : Nat} (h : Xoa l i = true) : 1 ≤ (l.getD i Xai).Bytes.size ∧ (l.getD i Xai).Bytes.size ≤ 400 := by
 unfold Xoa at h
 simp only [Bool.and_eq_true, Int.toNat_natCast] at h
 have := (Xfc _).1 h.1.1.1
 omega
theorem Xrd (l : List Packet) (hl : l.length ≤ 60) (hn : 1 ≤ l.length) : ∃ o, loop (Xau l) (⟨#[]⟩, 0) = some o ∧ loop (Xas l) (⟨#[]⟩, 0) = some o ∧ (o = .ret ([], false) ∨ ∃ v : ByteArray, o = .out v ∧ 1 ≤ v.size ∧ v.size ≤ 24000) := by
 have key : ∀ i : Nat, i ≤ l.length → ∀ s : ByteArray, s.size ≤ 400 * i → (1 ≤ i → 1 ≤ s.size) → ∃ o, loop (Xau l) (s, (i : Int)) = some o ∧ loop (Xas l) (s, (i : Int)) = some o ∧ (o = .ret ([], false) ∨ ∃ v : ByteArray, o = .out v ∧ 1 ≤ v.size ∧ v.size ≤ 24000) := by
  refine Xdc _ ?_ ?_
  ·
   intro s h1 h2
   refine ⟨.out s, Xdy ?_, Xdy ?_, Or.inr ⟨s, rfl, h2 hn, by omega⟩⟩
   ·
    unfold Xau; rw [Xbf (by simp)]
   ·
    unfold Xas; rw [Xbf (by simp)]
  ·
   intro i hi ih s h1 h2
   have s1 := Xmj l i hi hl s h1
   have s2 := Xl1 l i hi hl s h1
   by_cases hp : Xoa l i = true
   ·
    rw [if_pos hp] at s1 s2
    have hz := Xpx hp
    have hc : (s ++ (l.getD i Xai).Bytes).size = s.size + (l.getD i Xai).Bytes.size := ByteArray.size_append
    obtain ⟨o, o1, o2, o3⟩ := ih (s ++ (l.getD i Xai).Bytes) (by omega) (by omega)
    exact ⟨o, lgo s1 o1, lgo s2 o2, o3⟩
   ·
    rw [if_neg hp] at s1 s2
    exact ⟨_, Xdy s1, Xdy s2, Or.inl rfl⟩
 exact key 0 (by omega) ⟨#[]⟩ (by show (0 : Nat) ≤ _; omega) (by omega)
theorem Xku (l : List Packet) : ∃ r, Xcf l = some r ∧ Xbz l = some r ∧ r.1.length ≤ 400 := by
 unfold Xcf Xbz
 rw [Xe3, Xam, Xef, Xam]
 by_cases h : 1 ≤ (l.length : Int) ∧ (l.length : Int) ≤ 60
 ·
  rw [decide_eq_true h, Bool.not_true, Xgx, Xgx]
  obtain ⟨o, o1, o2, o3⟩ := Xrd l (by omega) (by omega)
  rw [o1, o2, Xam, Xam]
  rcases o3 with rfl | ⟨v, rfl, v1, v2⟩
  ·
   exact ⟨_, rfl, rfl, by simp⟩
  ·
   refine ⟨uV v, ?_, ?_, Xrr v⟩
   ·
    simp only
    rw [Xi4 v (by omega), Xam]
   ·
    simp only
    rw [Xin v (by omega), Xam]
    cases h2 : (uV v).2 with
    | true =>
     have h3 := Xua v v1 h2
     have h4 : ((((uV v).1.length : Nat) : Int) == 0) = false := by
      rw [beq_eq_false_iff_ne]
      intro e
      exact h3 (List.eq_nil_of_length_eq_zero (by omega))
     rw [Xe5, Xam, h4, Xgx, ← h2]
    | false =>
     rcases Xsw v with ⟨x, _, e⟩ | ⟨_, e⟩
     ·
      rw [e] at h2; cases h2
     ·
      rw [e]; rfl
 ·
  rw [decide_eq_false h]
  exact ⟨_, rfl, rfl, by simp⟩
theorem FnExactPictureOf {p0 : List Packet} (h0 : p0.length ≤ maxLen ∧ ∀ y ∈ p0, Xmc y) : Xbe p0 = some true := by
 have hm : maxLen = 9223372036854775807 := rfl
 unfold Xbe
 obtain ⟨t, e, t1, t2, t3⟩ := Xht p0 h0.1 (fun x hx => by have := h0.2 x hx; unfold Xmc at this; exact this.2.2.2) 1048576 (by omega) (by omega)
 rw [e, Xam]
 by_cases ht : t < 0
 ·
  rw [Xbq ht]
 rw [Xbf ht]
 have hl : p0.length ≤ 1048576 := by have := t2 (by omega); omega
 obtain ⟨r, r1, r2, r3⟩ := Xku p0
 simp only [Xhw p0 hl, Xam, r1, r2, Xf4 r.1 (by omega), Xe5, beq_self_eq_true, Bool.not_true, Xgx, Xf3 p0 (by omega), Xf7 p0 1 (by omega) (by omega) (by omega), Xf9 r.1 1 (by omega) (by omega) (by omega), Xf5 r.1 1 (by omega) (by omega) (by omega), bne_self_eq_false]
 rw [snA, Xam, Xgx, snA, snA]
end Go.Proofs.Ytlebkepfhdjnmab.A.Pure
