/- The pure statement of the law FnExactSquareFor: over numbers, texts and lists alone, what the law computes is true. Conditions: the sizes of what a machine holds. -/
import Derived.Test.YtpmljllgnocjkaaGreatDFnExactSquareFor
namespace Go.Proofs.YtpmljllgnocjkaaGreat.A.Pure
open Go Go.Proofs Go.Proofs.YtpmljllgnocjkaaGreatAL Go.RowKit
set_option linter.unusedVariables false
set_option linter.unusedSimpArgs false
set_option maxHeartbeats 1000000
theorem bnd_s {α β : Type} (a : α) (f : α → Option β) : bnd (some a) f = f a := rfl
theorem bnd_e {α β : Type} {x : Option α} {a : α} {f : α → Option β} (h : x = some a) : bnd x f = f a := by subst h; rfl
theorem sel_t {β : Type} (x y : β) : sel true x y = x := rfl
theorem sel_f {β : Type} (x y : β) : sel false x y = y := rfl
theorem sel_n {β : Type} (b : Bool) (x y : β) : sel (!b) x y = sel b y x := by cases b <;> rfl
theorem sel_and (b x : Bool) : sel b (some x) (some false) = some (b && x) := by cases b <;> rfl
theorem sel_or (b x : Bool) : sel b (some true) (some x) = some (b || x) := by cases b <;> rfl
theorem sel_nor (b x : Bool) : sel b (some x) (some true) = some (!b || x) := by cases b <;> rfl
theorem sel_same {β : Type} (b : Bool) (x : β) : sel b x x = x := by cases b <;> rfl
theorem sel_ss {β : Type} (b : Bool) (x y : β) : sel b (some x) (some y) = some (sel b x y) := by cases b <;> rfl
theorem sel_ite {β : Type} (b : Bool) (x y : β) : sel b x y = if b = true then x else y := by cases b <;> rfl
theorem sel_d {β : Type} (p : Prop) [Decidable p] (x y : β) : sel (decide p) x y = if p then x else y := by
 by_cases h : p <;> simp [h, sel]
theorem sel_pos {β : Type} {b : Bool} {x y : β} (h : b = true) : sel b x y = x := by subst h; rfl
theorem sel_neg {β : Type} {b : Bool} {x y : β} (h : b = false) : sel b x y = y := by subst h; rfl
theorem sel_yes {β : Type} {p : Prop} [Decidable p] {x y : β} (h : p) : sel (decide p) x y = x := by simp [h, sel]
theorem sel_no {β : Type} {p : Prop} [Decidable p] {x y : β} (h : ¬ p) : sel (decide p) x y = y := by simp [h, sel]
theorem req_p {β : Type} {c : Prop} [Decidable c] {k : Option β} (h : c) : req c k = k := if_pos h
theorem wk {e : Int} (h1 : -9223372036854775808 ≤ e) (h2 : e ≤ 9223372036854775807) : wrapK .i64 e = e := by
 show wrap64 e = e
 unfold wrap64; omega
theorem w8 {e : Int} (h1 : 0 ≤ e) (h2 : e ≤ 255) : wrapK .u8 e = e := by
 show IntKind.wrap .u8 e = e
 simp [IntKind.wrap, IntKind.signed, IntKind.bits]; omega
theorem tmod_pos {a b : Int} (h : 0 ≤ a) : Int.tmod a b = a % b := Int.tmod_eq_emod_of_nonneg h
theorem tdiv_pos {a b : Int} (h : 0 ≤ a) : Int.tdiv a b = a / b := Int.tdiv_eq_ediv_of_nonneg h
theorem down_to {P : Nat → Prop} (n : Nat) (h0 : P n) (hs : ∀ i, i < n → P (i + 1) → P i) : ∀ i, i ≤ n → P i := by
 intro i hi
 obtain ⟨k, rfl⟩ : ∃ k, n = i + k := ⟨n - i, by omega⟩
 clear hi
 induction k generalizing i with
 | zero => exact h0
 | succ k ih =>
  refine hs i (by omega) ?_
  exact ih (i + 1) (by rw [show i + 1 + k = i + (k + 1) by omega]; exact h0) (fun j hj => hs j (by omega))
theorem lgo {V O : Type} {f : V → Option (Lp V O)} {x y : V} {r : Option O} (h : f x = some (.go y)) (k : loop f y = r) : loop f x = r := by rw [loop_go h]; exact k
theorem ldone {V O : Type} {f : V → Option (Lp V O)} {x : V} {o : O} (h : f x = some (.done o)) : loop f x = some o := loop_done h
theorem loop_inv {V O : Type} {f : V → Option (Lp V O)} (I : V → Prop) (m : V → Nat) (Q : V → O → Prop) (h : ∀ v, I v → (∃ o, f v = some (.done o) ∧ Q v o) ∨ ∃ v', f v = some (.go v') ∧ I v' ∧ m v' < m v ∧ ∀ o, Q v' o → Q v o) : ∀ v, I v → ∃ o, loop f v = some o ∧ Q v o := by
 intro v
 generalize hn : m v = n
 induction n using Nat.strongRecOn generalizing v with
 | _ n ih =>
  intro hv
  rcases h v hv with ⟨o, h1, h2⟩ | ⟨v', h1, h2, h3, h4⟩
  ·
   exact ⟨o, loop_done h1, h2⟩
  ·
   obtain ⟨o, h5, h6⟩ := ih (m v') (by omega) v' rfl h2
   exact ⟨o, by rw [loop_go h1]; exact h5, h4 o h6⟩
theorem getD_at {α : Type} (l : List α) (i : Nat) (h : i < l.length) (d : α) : l.getD i d = l[i] := by
 simp [List.getD_eq_getElem?_getD, List.getElem?_eq_getElem h]
theorem impl_within_eq (a b c : Int) : impl_within a b c = some (decide (b ≤ a ∧ a ≤ c)) := by
 unfold impl_within
 by_cases h : b ≤ a <;> simp [bnd, sel, h]
theorem spec_l01In_eq (a b c : Int) : spec_l01In a b c = some (decide (b ≤ a ∧ a ≤ c)) := by
 unfold spec_l01In
 by_cases h : b ≤ a <;> simp [bnd, sel, h]
theorem set_mid {α : Type} (a : List α) (x y : α) (b : List α) : (a ++ x :: b).set a.length y = a ++ y :: b := by
 induction a with
 | nil => rfl
 | cons z a ih => simp only [List.cons_append, List.length_cons, List.set_cons_succ, ih]
theorem getD_mid {α : Type} (a : List α) (x d : α) (b : List α) : (a ++ x :: b).getD a.length d = x := by
 induction a with
 | nil => rfl
 | cons z a ih => simp
theorem fill_loop {α β : Type} (l : List α) (g : α → β) (d : α) (e : β) {f : (Int × List β) → Option (Lp (Int × List β) (List β))}
  (h : ∀ (i : Nat) (o : List β), i < l.length → o.length = l.length → f ((i : Int), o) = some (.go (((i + 1 : Nat) : Int), o.set i (g (l.getD i d))))) (h0 : ∀ o, f ((l.length : Int), o) = some (.done o)) : loop f (0, List.replicate l.length e) = some (l.map g) := by
 have key : ∀ (r a : List α), l = a ++ r → loop f ((a.length : Int), a.map g ++ List.replicate r.length e) = some (l.map g) := by
  intro r
  induction r with
  | nil =>
   intro a ha
   rw [List.append_nil] at ha
   subst ha
   rw [loop_done (h0 _)]; simp
  | cons x r ih =>
   intro a ha
   have hlen : a.length < l.length := by rw [ha]; simp
   rw [loop_go (h a.length _ hlen (by rw [ha]; simp))]
   have e1 : l.getD a.length d = x := by rw [ha]; exact getD_mid a x d r
   have e2 : (a.map g ++ List.replicate (x :: r).length e).set a.length (g x) = (a ++ [x]).map g ++ List.replicate r.length e := by
    have := set_mid (a.map g) e (g x) (List.replicate r.length e)
    rw [List.length_map] at this
    rw [List.length_cons, List.replicate_succ, this]
    simp
   rw [e1, e2]
   have := ih (a ++ [x]) (by rw [ha]; simp)
   rw [List.length_append, List.length_singleton] at this
   exact this
 exact key l [] rfl
theorem self_loop {f : Int → Option (Lp Int (Ou Unit Bool))} (n : Nat) (h : ∀ i : Nat, i < n → f i = some (.go ((i + 1 : Nat) : Int))) (h0 : f n = some (.done (.out ()))) : loop f 0 = some (.out ()) :=
 down_to (P := fun i => loop f (i : Int) = some (.out ())) n (loop_done h0) (fun i hi ih => by rw [loop_go (h i hi)]; exact ih) 0 (by omega)
def brought (n a b : Int) : Int := if b < a ∨ n < a then a else if n > b then b else n
theorem impl_Brought_eq (n a b : Int) : impl_Brought n a b = some (brought n a b) := by
 unfold impl_Brought brought
 congr 1
 repeat' split
 all_goals omega
theorem brought_in {n a b : Int} (h : a ≤ b) : a ≤ brought n a b ∧ brought n a b ≤ b := by
 unfold brought
 repeat' split
 all_goals omega
theorem spec_Brought_eq (n a b : Int) : spec_Brought n a b = some (brought n a b) := by
 unfold spec_Brought brought
 rw [sel_or, bnd_s]
 by_cases h : b < a ∨ n < a
 ·
  rw [if_pos h, sel_pos (by simpa using h)]
 ·
  rw [if_neg h, sel_neg (by simp; omega), sel_d]; split <;> rfl
def picOk (p : Pic) : Bool := decide (1 ≤ p.Wide ∧ p.Wide ≤ 256) && (decide (1 ≤ p.High ∧ p.High ≤ 256) && ((p.Dots.size : Int) == p.Wide * p.High))
theorem area_small {w h : Int} (h1 : 1 ≤ w ∧ w ≤ 256) (h2 : 1 ≤ h ∧ h ≤ 256) : 1 ≤ w * h ∧ w * h ≤ 65536 := by
 have a : w * 1 ≤ w * h := Int.mul_le_mul_of_nonneg_left h2.1 (by omega)
 have b : w * h ≤ 256 * h := Int.mul_le_mul_of_nonneg_right h1.2 (by omega)
 omega
theorem spec_PicOk_eq (p : Pic) : spec_PicOk p = some (picOk p) := by
 unfold spec_PicOk picOk
 simp only [spec_l01In_eq, bnd_s, sel_and]
 by_cases h1 : 1 ≤ p.Wide ∧ p.Wide ≤ 256
 ·
  by_cases h2 : 1 ≤ p.High ∧ p.High ≤ 256
  ·
   have := area_small h1 h2
   rw [wk (by omega) (by omega)]
  ·
   rw [decide_eq_false h2, Bool.false_and, Bool.false_and]
 ·
  rw [decide_eq_false h1, Bool.false_and, Bool.false_and]
theorem impl_PicOk_eq (p : Pic) : impl_PicOk p = some (picOk p) := by
 unfold impl_PicOk picOk
 simp only [impl_within_eq, bnd_s, sel_and]
 by_cases h1 : 1 ≤ p.Wide ∧ p.Wide ≤ 256
 ·
  by_cases h2 : 1 ≤ p.High ∧ p.High ≤ 256
  ·
   have := area_small h1 h2
   rw [wk (by omega) (by omega)]
  ·
   rw [decide_eq_false h2, Bool.false_and, Bool.false_and]
 ·
  rw [decide_eq_false h1, Bool.false_and, Bool.false_and]
theorem laws_eqIntS_self (l : List Int) (hl : l.length ≤ 9223372036854775806) : laws_eqIntS l l = some true := by
 unfold laws_eqIntS
 rw [sel_neg (by simp), self_loop l.length (f := laws_eqIntS_l2 l l) (by
  intro i hi
  unfold laws_eqIntS_l2
  rw [sel_yes (by omega), req_p (by omega), req_p (by omega), sel_neg (by simp), wk (by omega) (by omega)]
  rfl) (by unfold laws_eqIntS_l2; rw [sel_no (by omega)])]
 rfl
def markI (k : Int) : List Int → List Int
 | [] => []
 | _ :: r => k :: markI (k + 1) r
theorem markI_len : ∀ (l : List Int) (k : Int), (markI k l).length = l.length
 | [], _ => rfl
 | _ :: r, k => by rw [markI, List.length_cons, List.length_cons, markI_len r]
theorem laws_markIntS_eq (l : List Int) (k : Int) (h0 : 0 < k) (h1 : k ≤ 1000000000) (hl : l.length ≤ 100000000) : laws_markIntS l k = some (k + l.length, markI k l) := by
 unfold laws_markIntS
 have key : ∀ (r a : List Int) (j : Int), 0 < j → j + r.length ≤ 2000000000 → a.length + r.length ≤ 100000000 → loop laws_markIntS_l2 (j, (a.length : Int), a ++ r) = some (j + r.length, a ++ markI j r) := by
  intro r
  induction r with
  | nil =>
   intro a j hj1 hj2 hl
   refine ldone ?_
   unfold laws_markIntS_l2
   simp only [List.append_nil]
   rw [sel_no (by omega)]
   simp [markI]
  | cons p r ih =>
   intro a j hj1 hj2 hl
   simp only [List.length_cons] at hj2 hl ⊢
   have hcl : ∀ x : Int, (a ++ x :: r).length = a.length + (r.length + 1) := fun x => by simp
   refine lgo (y := (j + 1, ((a ++ [j]).length : Int), (a ++ [j]) ++ r)) ?_ ?_
   ·
    unfold laws_markIntS_l2
    simp only [Int.toNat_natCast, set_mid, hcl]
    rw [sel_yes (by omega), req_p (by omega), req_p (by omega), wk (e := j + 1) (by omega) (by omega), wk (by omega) (by omega)]
    simp
   ·
    rw [ih _ (j + 1) (by omega) (by omega) (by simp; omega)]
    simp only [markI, List.append_assoc, List.singleton_append]
    congr 2
    omega
 have := key l [] k h0 (by omega) (by simp; omega)
 simp only [List.length_nil, List.nil_append] at this
 rw [show ((k, 0, l) : Int × Int × List Int) = (k, ((0 : Nat) : Int), l) from rfl, this]
 rfl
theorem laws_heldIntS_eq (l : List Int) (k : Int) (h0 : 0 < k) (h1 : k ≤ 1000000000) (hl : l.length ≤ 100000000) : laws_heldIntS (markI k l) k = some (k + l.length) := by
 unfold laws_heldIntS
 have key : ∀ (r a : List Int) (j : Int), 0 < j → j + r.length ≤ 2000000000 → a.length + r.length ≤ 100000000 → loop (laws_heldIntS_l2 (a ++ markI j r)) (j, (a.length : Int)) = some (.out (j + r.length)) := by
  intro r
  induction r with
  | nil =>
   intro a j hj1 hj2 hl
   refine ldone ?_
   unfold laws_heldIntS_l2
   simp only [markI, List.append_nil]
   rw [sel_no (by omega)]
   simp
  | cons p r ih =>
   intro a j hj1 hj2 hl
   simp only [List.length_cons] at hj2 hl ⊢
   have hcl : ∀ (x : Int) (r : List Int), (a ++ x :: r).length = a.length + (r.length + 1) := fun x r => by simp
   refine lgo (y := (j + 1, ((a ++ [j]).length : Int))) ?_ ?_
   ·
    unfold laws_heldIntS_l2
    simp only [markI, Int.toNat_natCast, getD_mid, hcl, markI_len]
    rw [sel_yes (by omega), req_p (by omega), sel_neg (by simp), wk (e := j + 1) (by omega) (by omega), wk (by omega) (by omega)]
    simp
   ·
    have := ih (a ++ [j]) (j + 1) (by omega) (by omega) (by simp; omega)
    simp only [markI]
    rw [List.append_assoc, List.singleton_append] at this
    rw [this]
    congr 2
    omega
 have := key l [] k h0 (by omega) (by simp; omega)
 simp only [List.length_nil, List.nil_append] at this
 rw [show ((k, 0) : Int × Int) = (k, ((0 : Nat) : Int)) from rfl, this]
 rfl
theorem str_append (a b : List Int) : strOfNums a ++ strOfNums b = strOfNums (a ++ b) := by
 unfold strOfNums
 rw [List.map_append]
 apply ByteArray.ext
 simp
theorem str_nil : (⟨#[]⟩ : ByteArray) = strOfNums [] := rfl
theorem and_1 (y : Int) : IntKind.wrap .i64 (BitVec.ofInt (IntKind.bits .i64) y &&& BitVec.ofInt (IntKind.bits .i64) 1).toNat = y % 2 := by
 have h : (BitVec.ofInt 64 y &&& BitVec.ofInt 64 1).toNat = (y % 2).toNat := by
  rw [BitVec.toNat_and]
  have e1 : (BitVec.ofInt 64 1).toNat = 1 := by decide
  rw [e1, Nat.and_one_is_mod, BitVec.toNat_ofInt]
  omega
 show IntKind.wrap .i64 ((BitVec.ofInt 64 y &&& BitVec.ofInt 64 1).toNat : Int) = _
 rw [h, ← wrapK_eq, wk (by omega) (by omega)]
 omega
def fixL : Nat → Int → List Int
 | 0, _ => []
 | w + 1, n => fixL w (n / 2) ++ [48 + n % 2]
theorem signs_loop (w : Nat) : ∀ (k : Nat) (n : Int) (s : List Int), 0 ≤ n → n ≤ 9223372036854775807 → k + s.length ≤ 100000 → loop impl_signs_l2 (n, (k : Int) - 1, List.replicate k 0 ++ s) = some (fixL k n ++ s) := by
 intro k
 induction k with
 | zero =>
  intro n s h0 h1 hl
  refine ldone ?_
  unfold impl_signs_l2
  simp only
  rw [sel_no (by omega)]
  simp [fixL]
 | succ k ih =>
  intro n s h0 h1 hl
  have e1 : List.replicate (k + 1) (0 : Int) ++ s = List.replicate k 0 ++ 0 :: s := by rw [List.replicate_succ', List.append_assoc]; rfl
  have e2 := set_mid (List.replicate k (0 : Int)) 0 (48 + n % 2) s
  rw [List.length_replicate] at e2
  refine lgo (y := (n / 2, (k : Int) - 1, List.replicate k 0 ++ (48 + n % 2) :: s)) ?_ ?_
  ·
   unfold impl_signs_l2
   have e3 : (((k + 1 : Nat) : Int) - 1).toNat = k := by omega
   simp only [e1, e3]
   rw [sel_yes (by omega), req_p (by simp; omega), req_p (by simp), req_p (by decide), and_1, wk (e := 48 + n % 2) (by omega) (by omega), w8 (by omega) (by omega), e2, wk (by omega) (by omega)]
   rw [show ((k + 1 : Nat) : Int) - 1 - 1 = (k : Int) - 1 by omega]
   rfl
  ·
   rw [ih (n / 2) ((48 + n % 2) :: s) (by omega) (by omega) (by simp; omega), fixL, List.append_assoc]; rfl
theorem impl_signs_eq (n : Int) (w : Nat) (h0 : 0 ≤ n) (h1 : n ≤ 9223372036854775807) (hw : w ≤ 1000) : impl_signs n (w : Int) = some (strOfNums (fixL w n)) := by
 unfold impl_signs
 rw [req_p (by omega), wk (by omega) (by omega), Int.toNat_natCast]
 have := signs_loop w w n [] h0 h1 (by simp; omega)
 rw [List.append_nil, List.append_nil] at this
 rw [this, bnd_s]
def figs (m : Nat) : Nat := if h : m = 0 then 0 else figs (m / 2) + 1
termination_by m
decreasing_by omega
def binL (m : Nat) : List Int := if h : m = 0 then [] else binL (m / 2) ++ [48 + ((m % 2 : Nat) : Int)]
termination_by m
decreasing_by omega
theorem binL_len (m : Nat) : (binL m).length = figs m := by
 induction m using Nat.strongRecOn with
 | _ m ih =>
  rw [binL, figs]
  by_cases h : m = 0
  ·
   rw [dif_pos h, dif_pos h]; rfl
  ·
   rw [dif_neg h, dif_neg h, List.length_append, ih (m / 2) (by omega)]; rfl
theorem figs_le {m j : Nat} (h : m < 2 ^ j) : figs m ≤ j := by
 induction j generalizing m with
 | zero => rw [figs, dif_pos (by simp at h; omega)]; omega
 | succ j ih =>
  rw [figs]
  split
  ·
   omega
  ·
   have := ih (m := m / 2) (by rw [Nat.pow_succ] at h; omega)
   omega
theorem figs_pos {m : Nat} (h : 0 < m) : 1 ≤ figs m := by rw [figs, dif_neg (by omega)]; omega
theorem fixL_bin (z m : Nat) : fixL (figs m + z) m = List.replicate z 48 ++ binL m := by
 induction m using Nat.strongRecOn with
 | _ m ih =>
  rw [binL, figs]
  by_cases h : m = 0
  ·
   rw [dif_pos h, dif_pos h, h, List.append_nil, Nat.zero_add]
   clear ih h
   induction z with
   | zero => rfl
   | succ z iz => rw [fixL, show ((0 : Nat) : Int) / 2 = ((0 : Nat) : Int) from rfl, iz, List.replicate_succ']; rfl
  ·
   rw [dif_neg h, dif_neg h, show figs (m / 2) + 1 + z = figs (m / 2) + z + 1 by omega, fixL, show (m : Int) / 2 = ((m / 2 : Nat) : Int) by omega, ih (m / 2) (by omega), List.append_assoc, show (m : Int) % 2 = ((m % 2 : Nat) : Int) by omega]
def ueL (n : Nat) : List Int := List.replicate (figs (n + 1) - 1) 48 ++ binL (n + 1)
theorem ueL_len (n : Nat) (h : n ≤ 1000000) : (ueL n).length ≤ 39 ∧ 1 ≤ (ueL n).length := by
 unfold ueL
 rw [List.length_append, List.length_replicate, binL_len]
 have := figs_le (m := n + 1) (j := 20) (by omega)
 have := figs_pos (m := n + 1) (by omega)
 omega
theorem figuresOf_loop : ∀ (m : Nat) (k : Int), 0 ≤ k → k ≤ 1000 → m ≤ 9223372036854775807 → loop impl_figuresOf_l2 ((m : Int), k) = some (k + figs m) := by
 have main : ∀ (j m : Nat) (k : Int), m < 2 ^ j → j ≤ 63 → 0 ≤ k → k + j ≤ 2000 → loop impl_figuresOf_l2 ((m : Int), k) = some (k + figs m) := by
  intro j
  induction j with
  | zero =>
   intro m k hm _ _ _
   have : m = 0 := by simp at hm; omega
   subst this
   refine ldone ?_
   unfold impl_figuresOf_l2
   simp only
   rw [sel_no (by omega), figs, dif_pos rfl]; simp
  | succ j ih =>
   intro m k hm hj h0 h1
   by_cases h : m = 0
   ·
    subst h
    refine ldone ?_
    unfold impl_figuresOf_l2
    simp only
    rw [sel_no (by omega), figs, dif_pos rfl]; simp
   ·
    refine lgo (y := (((m / 2 : Nat) : Int), k + 1)) ?_ ?_
    ·
     unfold impl_figuresOf_l2
     simp only
     rw [sel_yes (by omega), req_p (by decide), wk (by omega) (by omega)]
     show some (Lp.go ((m : Int) / 2, k + 1)) = _
     congr 3
    ·
     rw [ih (m / 2) (k + 1) (by rw [Nat.pow_succ] at hm; omega) (by omega) (by omega) (by omega), figs.eq_def m, dif_neg h]
     congr 1; omega
 intro m k h0 h1 hm
 exact main 63 m k (by omega) (by omega) h0 (by omega)
theorem impl_ue_eq (n : Nat) (h : n ≤ 1000000) : impl_ue (n : Int) = some (strOfNums (ueL n)) := by
 unfold impl_ue impl_figuresOf
 rw [wk (e := (n : Int) + 1) (by omega) (by omega)]
 have := figuresOf_loop (n + 1) 0 (by omega) (by omega) (by omega)
 rw [show ((n + 1 : Nat) : Int) = (n : Int) + 1 by omega, Int.zero_add] at this
 rw [this, bnd_s, bnd_s]
 have h1 := figs_le (m := n + 1) (j := 20) (by omega)
 have h2 := figs_pos (m := n + 1) (by omega)
 rw [wk (e := 2 * (figs (n + 1) : Int)) (by omega) (by omega), wk (by omega) (by omega), show 2 * (figs (n + 1) : Int) - 1 = ((figs (n + 1) + (figs (n + 1) - 1) : Nat) : Int) by omega, impl_signs_eq _ _ (by omega) (by omega) (by omega), bnd_s,
  show (n : Int) + 1 = ((n + 1 : Nat) : Int) by omega, fixL_bin]
 rfl
theorem spec_l01Long_eq (n : Nat) (x : Int) (h : n ≤ 1000000000) : spec_l01Long (n : Int) x = some (strOfNums (List.replicate n x)) := by
 unfold spec_l01Long
 rw [req_p (by omega), Int.toNat_natCast]
 have key : ∀ (k a : Nat), k + a = n → loop (spec_l01Long_l2 (n : Int) x) ((a : Int), List.replicate a x ++ List.replicate k 0) = some (List.replicate n x) := by
  intro k
  induction k with
  | zero =>
   intro a ha
   refine ldone ?_
   unfold spec_l01Long_l2
   simp only
   rw [sel_no (by omega)]
   simp; omega
  | succ k ih =>
   intro a ha
   have e2 := set_mid (List.replicate a x) 0 x (List.replicate k 0)
   rw [List.length_replicate] at e2
   refine lgo (y := (((a + 1 : Nat) : Int), List.replicate (a + 1) x ++ List.replicate k 0)) ?_ (ih (a + 1) (by omega))
   unfold spec_l01Long_l2
   simp only [List.replicate_succ (n := k), Int.toNat_natCast]
   rw [sel_yes (by omega), req_p (by simp; omega), req_p (by simp), e2, wk (by omega) (by omega), List.replicate_succ' (n := a), List.append_assoc]
   rfl
 have := key n 0 rfl
 rw [List.replicate_zero, List.nil_append] at this
 exact bnd_e this
theorem spec_l03Ue_eq (n : Nat) (h : n ≤ 1000000) : spec_l03Ue (n : Int) = some (strOfNums (ueL n)) := by
 have main : ∀ (j m : Nat) (s : List Int), m < 2 ^ j → j ≤ 63 → s.length + j ≤ 1000 → loop spec_l03Ue_l2 ((m : Int), strOfNums s) = some (strOfNums (binL m ++ s)) := by
  intro j
  induction j with
  | zero =>
   intro m s hm _ _
   have : m = 0 := by simp at hm; omega
   subst this
   refine ldone ?_
   unfold spec_l03Ue_l2
   simp only
   rw [sel_no (by omega), binL, dif_pos rfl]; rfl
  | succ j ih =>
   intro m s hm hj hl
   by_cases h : m = 0
   ·
    subst h
    refine ldone ?_
    unfold spec_l03Ue_l2
    simp only
    rw [sel_no (by omega), binL, dif_pos rfl]; rfl
   ·
    have hlt : (m : Int) < 2 ^ (j + 1) := by exact_mod_cast hm
    have hle : (2 : Int) ^ (j + 1) ≤ 2 ^ 63 := by
     have := Nat.pow_le_pow_right (n := 2) (by omega) hj
     exact_mod_cast this
    have hbd : (m : Int) < 9223372036854775808 := Int.lt_of_lt_of_le hlt (by simpa using hle)
    refine lgo (y := (((m / 2 : Nat) : Int), strOfNums ((48 + ((m % 2 : Nat) : Int)) :: s))) ?_ ?_
    ·
     unfold spec_l03Ue_l2
     simp only
     rw [sel_yes (by omega), req_p (by decide), tmod_pos (by omega), tdiv_pos (by omega), wk (e := 48 + (m : Int) % 2) (by omega) (by omega), w8 (by omega) (by omega), req_p (by simp only [strOfNums_size, List.length_singleton]; omega), req_p (by decide), wk (by omega) (by omega), str_append]
     congr 3
    ·
     rw [ih (m / 2) _ (by rw [Nat.pow_succ] at hm; omega) (by omega) (by simp; omega)]
     conv => rhs; rw [binL, dif_neg h]
     rw [List.append_assoc]; rfl
 unfold spec_l03Ue
 have h1 := figs_le (m := n + 1) (j := 20) (by omega)
 have h2 := figs_pos (m := n + 1) (by omega)
 rw [wk (e := (n : Int) + 1) (by omega) (by omega), str_nil, show (n : Int) + 1 = ((n + 1 : Nat) : Int) by omega, main 63 (n + 1) [] (by omega) (by omega) (by simp), bnd_s, List.append_nil, strOfNums_size, binL_len, wk (by omega) (by omega), show (figs (n + 1) : Int) - 1 = ((figs (n + 1) - 1 : Nat) : Int) by omega, spec_l01Long_eq _ _ (by omega), bnd_s,
  req_p (by simp only [strOfNums_size, List.length_replicate]; omega), str_append]
 rfl
theorem laws_toIntS_eq (l : List Int) (hl : l.length ≤ 1048576) : laws_toIntS l = some l := by
 unfold laws_toIntS
 rw [req_p (by omega), Int.toNat_natCast]
 have := fill_loop l (fun p : Int => p) 0 (0 : Int) (f := laws_toIntS_l2 l) (by
  intro i o hi ho
  unfold laws_toIntS_l2
  simp only
  rw [sel_yes (by omega), req_p (by omega), req_p (by omega), req_p (by omega), wk (by omega) (by omega)]
  rfl) (by
  intro o; unfold laws_toIntS_l2; simp only; rw [sel_no (by omega)])
 rw [this, bnd_s, List.map_id']
theorem laws_szPic_eq (p : Pic) (m : Int) (hl : p.Dots.size ≤ maxLen) (h0 : 0 ≤ m) (h1 : m ≤ 1048576) : laws_szPic p m = some (if m < p.Dots.size then -1 else m - p.Dots.size) := by
 have hm : maxLen = 9223372036854775807 := rfl
 unfold laws_szPic
 rw [wk (by omega) (by omega), sel_d]
 by_cases h : m < p.Dots.size
 ·
  rw [if_pos h, if_pos (by omega)]
 ·
  rw [if_neg h, if_neg (by omega)]
def foldN (n : Int) : Nat := if n > 0 then (2 * n - 1).toNat else (-2 * n).toNat
theorem impl_FoldSe_eq (n : Int) (h : -500000 ≤ n ∧ n ≤ 500000) : impl_FoldSe n = some ((foldN n : Int), true) := by
 unfold impl_FoldSe foldN
 rw [impl_within_eq, bnd_s, sel_n, sel_yes h, sel_d, wk (e := 2 * n) (by omega) (by omega), wk (by omega) (by omega), wk (by omega) (by omega)]
 split
 ·
  rw [Int.toNat_of_nonneg (by omega)]
 ·
  rw [Int.toNat_of_nonneg (by omega)]
theorem spec_FoldSe_eq (n : Int) (h : -500000 ≤ n ∧ n ≤ 500000) : spec_FoldSe n = some ((foldN n : Int), true) := by
 unfold spec_FoldSe foldN
 rw [spec_l01In_eq, bnd_s, sel_n, sel_yes h, sel_d, wk (e := 2 * n) (by omega) (by omega), wk (by omega) (by omega), wk (by omega) (by omega)]
 split
 ·
  rw [Int.toNat_of_nonneg (by omega)]
 ·
  rw [Int.toNat_of_nonneg (by omega)]
theorem foldN_le (n : Int) (h : -500000 ≤ n ∧ n ≤ 500000) : foldN n ≤ 1000000 := by unfold foldN; split <;> omega
def seL (n : Int) : List Int := ueL (foldN n)
theorem spec_l03Se_eq (n : Int) (h : -500000 ≤ n ∧ n ≤ 500000) : spec_l03Se n = some (strOfNums (seL n)) := by
 unfold spec_l03Se
 rw [spec_FoldSe_eq n h, bnd_s, spec_l03Ue_eq _ (foldN_le n h), bnd_s]; rfl
theorem impl_SeRow_eq (n : Int) (h : -500000 ≤ n ∧ n ≤ 500000) : impl_SeRow n = some (strOfNums (seL n), true) := by
 have := foldN_le n h
 unfold impl_SeRow
 rw [impl_FoldSe_eq n h, bnd_s, sel_n, sel_t]
 unfold impl_UeRow
 rw [impl_within_eq, bnd_s, sel_n, sel_yes (by omega), impl_ue_eq _ this, bnd_s, bnd_s]; rfl
def lvIn (x : Int) : Bool := decide (-5000 ≤ x ∧ x ≤ 5000)
def lv64 (l : List Int) : Bool := decide (l.length = 64) && l.all lvIn
theorem all_loop (p : Int → Bool) (l : List Int) (f : Int → Option (Lp Int (Ou Unit Bool))) (h : ∀ i : Nat, i < l.length → f (i : Int) = sel (!(p (l.getD i 0))) (some (.done (.ret false))) (some (.go ((i + 1 : Nat) : Int)))) (h0 : f (l.length : Int) = some (.done (.out ()))) :
  loop f 0 = some (if l.all p = true then .out () else .ret false) := by
 have key : ∀ (r a : List Int), l = a ++ r → loop f (a.length : Int) = some (if r.all p = true then .out () else .ret false) := by
  intro r
  induction r with
  | nil => intro a ha; rw [List.append_nil] at ha; rw [← ha, loop_done h0]; rfl
  | cons x r ih =>
   intro a ha
   have hlen : a.length < l.length := by rw [ha]; simp
   have hx : l.getD a.length 0 = x := by rw [ha]; exact getD_mid a x _ r
   have hs := h a.length hlen
   rw [hx] at hs
   cases e : p x with
   | true =>
    rw [e] at hs
    have := ih (a ++ [x]) (by rw [ha]; simp)
    rw [List.length_append, List.length_singleton] at this
    rw [loop_go hs, this, List.all_cons, e, Bool.true_and]
   | false => rw [e] at hs; rw [loop_done hs, List.all_cons, e, Bool.false_and]; rfl
 exact key l [] rfl
theorem spec_l09All_lv (l : List Int) : spec_l09All l 64 5000 = some (lv64 l) := by
 unfold spec_l09All lv64
 by_cases h : l.length = 64
 ·
  rw [sel_neg (by simp only [bne_eq_false_iff_eq]; omega), all_loop lvIn l (spec_l09All_l2 l 64 5000) (by
   intro i hi
   unfold spec_l09All_l2
   rw [sel_yes (by omega), req_p (by omega), wk (e := 0 - 5000) (by omega) (by omega), spec_l01In_eq, bnd_s, wk (by omega) (by omega), Int.toNat_natCast]
   rfl) (by unfold spec_l09All_l2; rw [sel_no (by omega)]), bnd_s, decide_eq_true h, Bool.true_and]
  cases l.all lvIn <;> rfl
 ·
  rw [sel_pos (by simp only [bne_iff_ne, ne_eq]; omega), decide_eq_false h, Bool.false_and]
theorem impl_areIn_eq (l : List Int) (n lo hi : Int) (hl : l.length ≤ 9223372036854775806) : impl_areIn l n lo hi = some (l.all (fun x => decide (lo ≤ x ∧ x ≤ hi)) && ((l.length : Int) == n)) := by
 unfold impl_areIn
 rw [all_loop (fun x => decide (lo ≤ x ∧ x ≤ hi)) l (impl_areIn_l2 l lo hi) (by
   intro i hi
   unfold impl_areIn_l2
   rw [sel_yes (by omega), req_p (by omega), impl_within_eq, bnd_s, wk (by omega) (by omega), Int.toNat_natCast]
   rfl) (by unfold impl_areIn_l2; rw [sel_no (by omega)]), bnd_s]
 cases l.all (fun x => decide (lo ≤ x ∧ x ≤ hi)) <;> rfl
theorem impl_areLevels_eq (l : List Int) (hl : l.length ≤ 9223372036854775806) : impl_areLevels l = some (lv64 l) := by
 unfold impl_areLevels lv64
 rw [impl_areIn_eq l _ _ _ hl, bnd_s]
 show some (l.all lvIn && ((l.length : Int) == 64)) = _
 have : ((l.length : Int) == 64) = decide (l.length = 64) := by rw [Bool.eq_iff_iff]; simp only [beq_iff_eq, decide_eq_true_eq]; omega
 rw [this, Bool.and_comm]
theorem lv64_parts {l : List Int} (h : lv64 l = true) : l.length = 64 ∧ l.all lvIn = true := by
 unfold lv64 at h; rw [Bool.and_eq_true, decide_eq_true_eq] at h; exact h
def condOk (c : Cond) : Bool := decide (0 ≤ c.Qp ∧ c.Qp ≤ 40) && !(c.Large && c.Exact)
theorem spec_CondOk_eq (c : Cond) : spec_CondOk c = some (condOk c) := by
 unfold spec_CondOk condOk
 rw [spec_l01In_eq, bnd_s, sel_nor, sel_and, bnd_s]
 cases c.Large <;> cases c.Exact <;> rfl
theorem impl_CondOk_eq (c : Cond) : impl_CondOk c = some (condOk c) := by
 unfold impl_CondOk condOk
 rw [impl_within_eq, bnd_s, sel_nor, sel_and, bnd_s]
 cases c.Large <;> cases c.Exact <;> rfl
def sqOk (s : Square) : Bool :=
 if s.Kind = 0 then decide (s.Mode = 0 ∧ s.Dx = 0 ∧ s.Dy = 0 ∧ s.Levels.length = 0)
 else if s.Kind = 1 then decide (s.Mode = 0) && (decide (-16 ≤ s.Dx ∧ s.Dx ≤ 16) && (decide (-16 ≤ s.Dy ∧ s.Dy ≤ 16) && lv64 s.Levels))
 else if s.Kind = 2 then decide (0 ≤ s.Mode ∧ s.Mode ≤ 3) && (decide (s.Dx = 0) && (decide (s.Dy = 0) && lv64 s.Levels))
 else false
theorem beq_dec (a b : Int) : (a == b) = decide (a = b) := by rw [Bool.eq_iff_iff]; simp
theorem spec_SquareOk_eq (s : Square) : spec_SquareOk s = some (sqOk s) := by
 unfold spec_SquareOk sqOk
 simp only [spec_l01In_eq, spec_l09All_lv, bnd_s, sel_and, beq_dec]
 simp only [sel_d]
 by_cases h0 : s.Kind = 0
 ·
  rw [if_pos h0, if_pos h0]; congr 1; rw [Bool.eq_iff_iff]; simp
 ·
  rw [if_neg h0, if_neg h0]
  by_cases h1 : s.Kind = 1
  ·
   rw [if_pos h1, if_pos h1]
  ·
   rw [if_neg h1, if_neg h1]
   by_cases h2 : s.Kind = 2
   ·
    rw [decide_eq_true h2, Bool.true_and, if_pos h2]
   ·
    rw [decide_eq_false h2, Bool.false_and, if_neg h2]
theorem impl_SquareOk_eq (s : Square) (hl : s.Levels.length ≤ 9223372036854775806) : impl_SquareOk s = some (sqOk s) := by
 unfold impl_SquareOk sqOk
 simp only [impl_within_eq, impl_areLevels_eq _ hl, bnd_s, sel_and, beq_dec]
 simp only [sel_d]
 by_cases h0 : s.Kind = 0
 ·
  rw [if_pos h0, if_pos h0]; congr 1; rw [Bool.eq_iff_iff]; simp
 ·
  rw [if_neg h0, if_neg h0]
  by_cases h1 : s.Kind = 1
  ·
   rw [if_pos h1, if_pos h1]
  ·
   rw [if_neg h1, if_neg h1]
   by_cases h2 : s.Kind = 2
   ·
    rw [decide_eq_true h2, Bool.true_and, if_pos h2]
   ·
    rw [decide_eq_false h2, Bool.false_and, if_neg h2]
def sqLet (s : Square) (c : Cond) : Bool := !c.Key || s.Kind == 2
theorem sqOk_kind {s : Square} (h : sqOk s = true) : 0 ≤ s.Kind ∧ s.Kind ≤ 2 := by
 unfold sqOk at h
 repeat' split at h
 all_goals first | omega | simp at h
theorem sqOk_one {s : Square} (h : sqOk s = true) (h1 : s.Kind = 1) : (-16 ≤ s.Dx ∧ s.Dx ≤ 16) ∧ (-16 ≤ s.Dy ∧ s.Dy ≤ 16) ∧ lv64 s.Levels = true := by
 unfold sqOk at h
 rw [if_neg (by omega), if_pos h1] at h
 simp only [Bool.and_eq_true, decide_eq_true_eq] at h
 exact ⟨h.2.1, h.2.2.1, h.2.2.2⟩
theorem sqOk_two {s : Square} (h : sqOk s = true) (h1 : s.Kind = 2) : (0 ≤ s.Mode ∧ s.Mode ≤ 3) ∧ lv64 s.Levels = true := by
 unfold sqOk at h
 rw [if_neg (by omega), if_neg (by omega), if_pos h1] at h
 simp only [Bool.and_eq_true, decide_eq_true_eq] at h
 exact ⟨h.1, h.2.2.2⟩
theorem bt_range (b : ByteArray) (i : Int) : 0 ≤ btOf b i ∧ btOf b i ≤ 255 := by
 unfold btOf
 split
 ·
  rename_i h
  have := (b[i.toNat]'h).toNat_lt
  omega
 ·
  omega
theorem picOk_parts {p : Pic} (h : picOk p = true) : (1 ≤ p.Wide ∧ p.Wide ≤ 256) ∧ (1 ≤ p.High ∧ p.High ≤ 256) ∧ (p.Dots.size : Int) = p.Wide * p.High := by
 unfold picOk at h
 simp only [Bool.and_eq_true, decide_eq_true_eq, beq_iff_eq] at h
 exact ⟨h.1, h.2.1, h.2.2⟩
def dotAt (p : Pic) (x y : Int) : Int := btOf p.Dots (brought y 0 (p.High - 1) * p.Wide + brought x 0 (p.Wide - 1))
theorem dotAt_range (p : Pic) (x y : Int) : 0 ≤ dotAt p x y ∧ dotAt p x y ≤ 255 := bt_range _ _
theorem dot_place {p : Pic} (ok : picOk p = true) (x y : Int) : 0 ≤ brought y 0 (p.High - 1) * p.Wide + brought x 0 (p.Wide - 1) ∧ brought y 0 (p.High - 1) * p.Wide + brought x 0 (p.Wide - 1) < p.Dots.size ∧ 0 ≤ brought y 0 (p.High - 1) * p.Wide ∧ brought y 0 (p.High - 1) * p.Wide ≤ 65536 := by
 obtain ⟨h1, h2, h3⟩ := picOk_parts ok
 have b1 := brought_in (n := y) (a := 0) (b := p.High - 1) (by omega)
 have b2 := brought_in (n := x) (a := 0) (b := p.Wide - 1) (by omega)
 have m1 := Int.mul_nonneg b1.1 (show 0 ≤ p.Wide by omega)
 have m2 := Int.mul_le_mul_of_nonneg_right b1.2 (show 0 ≤ p.Wide by omega)
 have m3 : (p.High - 1) * p.Wide = p.Wide * p.High - p.Wide := by rw [Int.sub_mul, Int.one_mul, Int.mul_comm]
 have m4 := (area_small h1 h2).2
 omega
theorem impl_dot_eq {p : Pic} (ok : picOk p = true) (x y : Int) : impl_Pic_dot p x y = some (dotAt p x y) := by
 obtain ⟨h1, h2, h3⟩ := picOk_parts ok
 unfold impl_Pic_dot dotAt
 rw [impl_Brought_eq, bnd_s, impl_Brought_eq, bnd_s, wk (e := p.High - 1) (by omega) (by omega), wk (e := p.Wide - 1) (by omega) (by omega)]
 obtain ⟨p1, p2, p3, p4⟩ := dot_place ok x y
 have b2 := brought_in (n := x) (a := 0) (b := p.Wide - 1) (by omega)
 have br := bt_range p.Dots (brought y 0 (p.High - 1) * p.Wide + brought x 0 (p.Wide - 1))
 rw [wk (e := brought y 0 (p.High - 1) * p.Wide) (by omega) (by omega), wk (e := brought y 0 (p.High - 1) * p.Wide + brought x 0 (p.Wide - 1)) (by omega) (by omega), req_p ⟨p1, p2⟩, wk (by omega) (by omega)]
theorem spec_DotAt_eq {p : Pic} (ok : picOk p = true) (x y : Int) : spec_DotAt p x y = some (dotAt p x y) := by
 obtain ⟨h1, h2, h3⟩ := picOk_parts ok
 unfold spec_DotAt dotAt
 rw [spec_PicOk_eq, bnd_s, ok, Bool.not_true, sel_f, spec_Brought_eq, bnd_s, spec_Brought_eq, bnd_s, wk (e := p.High - 1) (by omega) (by omega), wk (e := p.Wide - 1) (by omega) (by omega)]
 obtain ⟨p1, p2, p3, p4⟩ := dot_place ok x y
 have b2 := brought_in (n := x) (a := 0) (b := p.Wide - 1) (by omega)
 have br := bt_range p.Dots (brought y 0 (p.High - 1) * p.Wide + brought x 0 (p.Wide - 1))
 rw [wk (e := brought y 0 (p.High - 1) * p.Wide) (by omega) (by omega), wk (e := brought y 0 (p.High - 1) * p.Wide + brought x 0 (p.Wide - 1)) (by omega) (by omega), req_p ⟨p1, p2⟩, wk (by omega) (by omega)]
def blkAt (p : Pic) (x y : Int) (i : Nat) : Int := dotAt p (x + ((i % 8 : Nat) : Int)) (y + ((i / 8 : Nat) : Int))
def blkL (p : Pic) (x y : Int) (n : Nat) : List Int := (List.range n).map (blkAt p x y)
theorem blkL_succ (p : Pic) (x y : Int) (n : Nat) : blkL p x y (n + 1) = blkL p x y n ++ [blkAt p x y n] := by simp [blkL, List.range_succ]
theorem blkL_length (p : Pic) (x y : Int) (n : Nat) : (blkL p x y n).length = n := by simp [blkL]
def dotIn (x : Int) : Bool := decide (0 ≤ x ∧ x ≤ 255)
def dots64 (l : List Int) : Bool := decide (l.length = 64) && l.all dotIn
theorem dots64_at {l : List Int} (h : dots64 l = true) : l.length = 64 ∧ ∀ i : Nat, i < 64 → 0 ≤ l.getD i 0 ∧ l.getD i 0 ≤ 255 := by
 simp only [dots64, Bool.and_eq_true, decide_eq_true_eq] at h
 refine ⟨h.1, fun i hi => ?_⟩
 have := List.all_eq_true.1 h.2 (l.getD i 0) (by rw [getD_at l i (by omega)]; exact List.getElem_mem _)
 simpa [dotIn] using this
theorem blkL_dots (p : Pic) (x y : Int) : dots64 (blkL p x y 64) = true := by
 simp only [dots64, blkL_length, decide_true, Bool.true_and, List.all_eq_true]
 intro z hz
 obtain ⟨i, _, rfl⟩ := List.mem_map.1 hz
 simp only [dotIn, decide_eq_true_eq]
 exact dotAt_range _ _ _
theorem spec_BlockOf_eq {p : Pic} (ok : picOk p = true) (x y : Int) (hx : -1000 ≤ x ∧ x ≤ 1000) (hy : -1000 ≤ y ∧ y ≤ 1000) : spec_BlockOf p x y = some (blkL p x y 64) := by
 have hm : maxLen = 9223372036854775807 := rfl
 unfold spec_BlockOf
 rw [spec_PicOk_eq, bnd_s, ok, sel_t, spec_l01In_eq, bnd_s, sel_yes (by omega), spec_l01In_eq, bnd_s, bnd_s, decide_eq_true (by omega), Bool.not_true, sel_f]
 have key : ∀ i : Nat, i ≤ 64 → loop (spec_BlockOf_l2 p x y) ((i : Int), blkL p x y i) = some (blkL p x y 64) := by
  refine down_to _ ?_ ?_
  ·
   exact ldone (by unfold spec_BlockOf_l2; rw [sel_no (by simp)])
  ·
   intro i hi ih
   refine lgo (y := (((i + 1 : Nat) : Int), blkL p x y (i + 1))) ?_ ih
   unfold spec_BlockOf_l2
   simp only
   rw [sel_yes (by omega), req_p (by omega), req_p (by omega), tmod_pos (by omega), tdiv_pos (by omega), wk (e := (i : Int) / 8) (by omega) (by omega), wk (e := x + (i : Int) % 8) (by omega) (by omega), wk (e := y + (i : Int) / 8) (by omega) (by omega), spec_DotAt_eq ok, bnd_s, req_p (by rw [blkL_length]; simp only [List.length_singleton]; omega), wk (e := (i : Int) + 1) (by omega) (by omega)]
   have e2 : dotAt p (x + (i : Int) % 8) (y + (i : Int) / 8) = blkAt p x y i := by unfold blkAt; congr 1
   rw [e2, ← blkL_succ]
   rfl
 have := key 0 (by omega)
 exact (bnd_e this).trans rfl
theorem impl_block_eq {p : Pic} (ok : picOk p = true) (x y : Int) (hx : -1000 ≤ x ∧ x ≤ 1000) (hy : -1000 ≤ y ∧ y ≤ 1000) : impl_Pic_block p x y = some (blkL p x y 64) := by
 have hm : maxLen = 9223372036854775807 := rfl
 unfold impl_Pic_block
 rw [req_p (by omega)]
 have key : ∀ r : Nat, r ≤ 8 → loop (impl_Pic_block_l12 p x y) ((r : Int), blkL p x y (8 * r)) = some (blkL p x y 64) := by
  refine down_to _ ?_ ?_
  ·
   exact ldone (by unfold impl_Pic_block_l12; rw [sel_no (by simp)])
  ·
   intro r hr ih
   refine lgo (y := (((r + 1 : Nat) : Int), blkL p x y (8 * (r + 1)))) ?_ ih
   unfold impl_Pic_block_l12
   simp only
   have inner : ∀ c : Nat, c ≤ 8 → loop (impl_Pic_block_l14 p x y ((r : Int), blkL p x y (8 * r))) ((c : Int), blkL p x y (8 * r + c)) = some (blkL p x y (8 * (r + 1))) := by
    refine down_to _ ?_ ?_
    ·
     exact ldone (by unfold impl_Pic_block_l14; rw [sel_no (by simp)]; rfl)
    ·
     intro c hc ih2
     refine lgo (y := (((c + 1 : Nat) : Int), blkL p x y (8 * r + (c + 1)))) ?_ ih2
     unfold impl_Pic_block_l14
     simp only
     rw [sel_yes (by omega), wk (e := x + (c : Int)) (by omega) (by omega), wk (e := y + (r : Int)) (by omega) (by omega), impl_dot_eq ok, bnd_s, req_p (by rw [blkL_length]; simp only [List.length_singleton]; omega), wk (e := (c : Int) + 1) (by omega) (by omega)]
     have e2 : dotAt p (x + (c : Int)) (y + (r : Int)) = blkAt p x y (8 * r + c) := by
      unfold blkAt
      rw [show (8 * r + c) % 8 = c by omega, show (8 * r + c) / 8 = r by omega]
     rw [e2, ← blkL_succ]
     rfl
   have i0 := inner 0 (by omega)
   rw [sel_yes (by omega)]
   refine (bnd_e i0).trans ?_
   rw [wk (e := (r : Int) + 1) (by omega) (by omega)]
   rfl
 have := key 0 (by omega)
 exact (bnd_e this).trans rfl
def absI (x : Int) : Int := if x < 0 then -x else x
def gapTo (a b : List Int) : Nat → Int
 | 0 => 0
 | n + 1 => gapTo a b n + absI (a.getD n 0 - b.getD n 0)
theorem gapTo_bounds {a b : List Int} (ha : dots64 a = true) (hb : dots64 b = true) : ∀ n : Nat, n ≤ 64 → 0 ≤ gapTo a b n ∧ gapTo a b n ≤ 255 * n
 | 0, _ => by simp [gapTo]
 | n + 1, h => by
  have ih := gapTo_bounds ha hb n (by omega)
  have p := (dots64_at ha).2 n (by omega)
  have q := (dots64_at hb).2 n (by omega)
  simp only [gapTo, absI]
  split <;> omega
theorem impl_gap_eq {a b : List Int} (ha : dots64 a = true) (hb : dots64 b = true) : impl_gap a b = some (gapTo a b 64) := by
 unfold impl_gap
 have la := (dots64_at ha).1
 have lb := (dots64_at hb).1
 have key : ∀ i : Nat, i ≤ 64 → loop (impl_gap_l2 a b) (gapTo a b i, (i : Int)) = some (gapTo a b 64) := by
  refine down_to _ ?_ ?_
  ·
   exact ldone (by unfold impl_gap_l2; rw [sel_no (by simp only; omega)])
  ·
   intro i hi ih
   refine lgo (y := (gapTo a b (i + 1), ((i + 1 : Nat) : Int))) ?_ ih
   have p := (dots64_at ha).2 i hi
   have q := (dots64_at hb).2 i hi
   have g := gapTo_bounds ha hb i (by omega)
   unfold impl_gap_l2 impl_size
   simp only [Int.toNat_natCast]
   rw [sel_yes (by omega), req_p (by omega), req_p (by omega), wk (e := a.getD i 0 - b.getD i 0) (by omega) (by omega), wk (e := 0 - (a.getD i 0 - b.getD i 0)) (by omega) (by omega), bnd_s]
   have e : (if 0 - (a.getD i 0 - b.getD i 0) > a.getD i 0 - b.getD i 0 then 0 - (a.getD i 0 - b.getD i 0) else a.getD i 0 - b.getD i 0) = absI (a.getD i 0 - b.getD i 0) := by
    unfold absI; split <;> split <;> omega
   have ab : 0 ≤ absI (a.getD i 0 - b.getD i 0) ∧ absI (a.getD i 0 - b.getD i 0) ≤ 255 := by unfold absI; split <;> omega
   rw [e, wk (e := gapTo a b i + absI (a.getD i 0 - b.getD i 0)) (by omega) (by omega), wk (e := (i : Int) + 1) (by omega) (by omega)]
   rfl
 exact (bnd_e (key 0 (by omega))).trans rfl
theorem impl_areDots_eq (l : List Int) (hl : l.length ≤ 9223372036854775806) : impl_areIn l 64 0 255 = some (dots64 l) := by
 rw [impl_areIn_eq l _ _ _ hl]
 have : ((l.length : Int) == 64) = decide (l.length = 64) := by rw [Bool.eq_iff_iff]; simp only [beq_iff_eq, decide_eq_true_eq]; omega
 rw [this, Bool.and_comm]
 rfl
def seSz (d : Int) : Int := ((seL d).length : Int)
theorem impl_SeSize_eq (d : Int) (h : -500000 ≤ d ∧ d ≤ 500000) : impl_SeSize d = some (seSz d) := by
 unfold impl_SeSize seSz
 rw [impl_SeRow_eq d h, bnd_s, strOfNums_size]
theorem seSz_range (d : Int) (h : -500000 ≤ d ∧ d ≤ 500000) : 1 ≤ seSz d ∧ seSz d ≤ 39 := by
 unfold seSz seL
 have := ueL_len (foldN d) (foldN_le d h)
 omega
def heldAt (p : Pic) (x y : Int) : Bool := decide (0 ≤ x ∧ x ≤ p.Wide - 8 ∧ 0 ≤ y ∧ y ≤ p.High - 8)
theorem impl_holds_8 {p : Pic} (ok : picOk p = true) (x y : Int) : impl_Pic_holds p ⟨x, y, 8, 8⟩ = some (heldAt p x y) := by
 obtain ⟨k1, k2, k3⟩ := picOk_parts ok
 unfold impl_Pic_holds heldAt
 simp only
 rw [impl_within_eq, bnd_s, impl_within_eq, bnd_s, wk (e := p.Wide - 8) (by omega) (by omega), wk (e := p.High - 8) (by omega) (by omega), impl_within_eq, bnd_s, impl_within_eq, bnd_s]
 simp only [sel_and, bnd_s]
 congr 1
 rw [Bool.eq_iff_iff]
 simp only [Bool.and_eq_true, decide_eq_true_eq]
 omega
theorem impl_isSquare_eq {p : Pic} (ok : picOk p = true) (x y : Int) (hx : x.tmod 8 = 0) (hy : y.tmod 8 = 0) (h : heldAt p x y = true) : impl_Pic_isSquare p x y = some true := by
 obtain ⟨k1, k2, k3⟩ := picOk_parts ok
 unfold heldAt at h
 rw [decide_eq_true_eq] at h
 unfold impl_Pic_isSquare
 rw [req_p (by omega), hx, req_p (by omega), hy, wk (e := p.Wide - 8) (by omega) (by omega), wk (e := p.High - 8) (by omega) (by omega), impl_within_eq, bnd_s, impl_within_eq, bnd_s, decide_eq_true (by omega), decide_eq_true (by omega)]
 rfl
def moveCost (p : Pic) (w : List Int) (x y dx dy : Int) : Int := gapTo w (blkL p (x + dx) (y + dy) 64) 64 + seSz dx + seSz dy
def BmI (p : Pic) (w : List Int) (x y r : Int) (past : Bool) (b : Int × Int × Int) : Prop :=
 (b = (0, 0, -1) ∧ past = false) ∨
 ((-r ≤ b.1 ∧ b.1 ≤ r) ∧ (-r ≤ b.2.1 ∧ b.2.1 ≤ r) ∧ heldAt p (x + b.1) (y + b.2.1) = true ∧ b.2.2 = moveCost p w x y b.1 b.2.1 ∧ (past = true → b.2.2 ≤ moveCost p w x y 0 0))
theorem moveCost_range {p : Pic} {w : List Int} (hw : dots64 w = true) (x y dx dy : Int) (hx : -100 ≤ dx ∧ dx ≤ 100) (hy : -100 ≤ dy ∧ dy ≤ 100) : 2 ≤ moveCost p w x y dx dy ∧ moveCost p w x y dx dy ≤ 20000 := by
 have g := gapTo_bounds hw (blkL_dots p (x + dx) (y + dy)) 64 (by omega)
 have a := seSz_range dx (by omega)
 have b := seSz_range dy (by omega)
 unfold moveCost; omega
theorem bm_step {p : Pic} {w : List Int} {x y r : Int} (ok : picOk p = true) (hw : dots64 w = true) (hr : 0 ≤ r ∧ r ≤ 4) (h0 : heldAt p x y = true) (s : Int × Int × Int × Int) (hs : -r ≤ s.2.2.2 ∧ s.2.2.2 ≤ r) (v : Int × Int × Int × Int) (hv : -r ≤ v.2.2.2 ∧ v.2.2.2 ≤ r)
  (past : Bool) (hi : BmI p w x y r past (v.1, v.2.1, v.2.2.1)) (hp : past = true ↔ (s.2.2.2 > 0 ∨ (s.2.2.2 = 0 ∧ v.2.2.2 > 0))) :
  ∃ b, impl_BestMove_l14 p w x y r s v = some (.go (b.1, b.2.1, b.2.2, v.2.2.2 + 1)) ∧ BmI p w x y r (decide (s.2.2.2 > 0 ∨ (s.2.2.2 = 0 ∧ v.2.2.2 + 1 > 0))) b := by
 obtain ⟨k1, k2, k3⟩ := picOk_parts ok
 have h0' := h0
 unfold heldAt at h0'
 rw [decide_eq_true_eq] at h0'
 unfold impl_BestMove_l14
 rw [sel_yes hv.2, wk (e := x + v.2.2.2) (by omega) (by omega), wk (e := y + s.2.2.2) (by omega) (by omega), wk (e := v.2.2.2 + 1) (by omega) (by omega), impl_holds_8 ok, bnd_s]
 cases hh : heldAt p (x + v.2.2.2) (y + s.2.2.2) with
 | false =>
  refine ⟨(v.1, v.2.1, v.2.2.1), rfl, ?_⟩
  have ne : ¬ (s.2.2.2 = 0 ∧ v.2.2.2 = 0) := by
   intro ⟨e1, e2⟩
   rw [e1, e2, Int.add_zero, Int.add_zero, h0] at hh
   cases hh
  rcases hi with ⟨h1, h2⟩ | ⟨h1, h2, h3, h4, h5⟩
  ·
   refine .inl ⟨h1, ?_⟩
   rw [decide_eq_false_iff_not]
   intro h
   have := hp.2 (by omega)
   rw [h2] at this; cases this
  ·
   refine .inr ⟨h1, h2, h3, h4, fun h => h5 (hp.2 ?_)⟩
   rw [decide_eq_true_eq] at h
   omega
 | true =>
  have hh' := hh
  unfold heldAt at hh'
  rw [decide_eq_true_eq] at hh'
  have hb := blkL_dots p (x + v.2.2.2) (y + s.2.2.2)
  have g := gapTo_bounds hw hb 64 (by omega)
  have z1 := seSz_range v.2.2.2 (by omega)
  have z2 := seSz_range s.2.2.2 (by omega)
  rw [Bool.not_true, sel_f, impl_block_eq ok _ _ (by omega) (by omega), bnd_s, impl_gap_eq hw hb, bnd_s, impl_SeSize_eq _ (by omega), bnd_s, impl_SeSize_eq _ (by omega), bnd_s, wk (e := gapTo w (blkL p (x + v.2.2.2) (y + s.2.2.2) 64) 64 + seSz v.2.2.2) (by omega) (by omega), wk (by omega) (by omega), sel_or, bnd_s]
  have mc : gapTo w (blkL p (x + v.2.2.2) (y + s.2.2.2) 64) 64 + seSz v.2.2.2 + seSz s.2.2.2 = moveCost p w x y v.2.2.2 s.2.2.2 := rfl
  rw [mc]
  have m1 := moveCost_range (p := p) (w := w) hw x y v.2.2.2 s.2.2.2 (by omega) (by omega)
  cases hc : (decide (v.2.2.1 < 0) || decide (moveCost p w x y v.2.2.2 s.2.2.2 < v.2.2.1)) with
  | true =>
   refine ⟨(v.2.2.2, s.2.2.2, moveCost p w x y v.2.2.2 s.2.2.2), rfl, .inr ⟨hv, hs, hh, rfl, fun h => ?_⟩⟩
   rw [decide_eq_true_eq] at h
   by_cases e0 : s.2.2.2 = 0 ∧ v.2.2.2 = 0
   ·
    rw [e0.1, e0.2]; exact Int.le_refl _
   ·
    have hpast := hp.2 (by omega)
    rcases hi with ⟨h1, h2⟩ | ⟨h1, h2, h3, h4, h5⟩
    ·
     rw [h2] at hpast; cases hpast
    ·
     have h5' := h5 hpast
     simp only at h4 h5' ⊢
     have n1 := moveCost_range (p := p) (w := w) hw x y v.1 v.2.1 (by simp only at h1; omega) (by simp only at h2; omega)
     simp only [Bool.or_eq_true, decide_eq_true_eq] at hc
     omega
  | false =>
   refine ⟨(v.1, v.2.1, v.2.2.1), rfl, ?_⟩
   simp only [Bool.or_eq_false_iff, decide_eq_false_iff_not] at hc
   rcases hi with ⟨h1, h2⟩ | ⟨h1, h2, h3, h4, h5⟩
   ·
    simp only [Prod.mk.injEq] at h1
    omega
   ·
    refine .inr ⟨h1, h2, h3, h4, fun h => ?_⟩
    rw [decide_eq_true_eq] at h
    by_cases e0 : s.2.2.2 = 0 ∧ v.2.2.2 = 0
    ·
     have := hc.2
     rw [e0.1, e0.2] at this
     simp only; omega
    ·
     exact h5 (hp.2 (by omega))
theorem impl_BestMove_ev {p : Pic} {w : List Int} {x y r : Int} (ok : picOk p = true) (hw : dots64 w = true) (hr : 0 ≤ r ∧ r ≤ 4) (hx : x.tmod 8 = 0) (hy : y.tmod 8 = 0) (h0 : heldAt p x y = true) :
  ∃ b, impl_BestMove p w x y r = some b ∧ (-r ≤ b.1 ∧ b.1 ≤ r) ∧ (-r ≤ b.2.1 ∧ b.2.1 ≤ r) ∧ heldAt p (x + b.1) (y + b.2.1) = true ∧ b.2.2 = moveCost p w x y b.1 b.2.1 ∧ b.2.2 ≤ moveCost p w x y 0 0 := by
 have hwl := (dots64_at hw).1
 unfold impl_BestMove
 rw [impl_PicOk_eq, bnd_s, ok, sel_t, impl_areDots_eq w (by omega), bnd_s, hw, sel_t, impl_within_eq, bnd_s, decide_eq_true (by omega), sel_t, impl_isSquare_eq ok x y hx hy h0, bnd_s, Bool.not_true, bnd_s, sel_f, wk (e := 0 - r) (by omega) (by omega)]
 obtain ⟨o, h, ho⟩ := loop_inv (f := impl_BestMove_l12 p w x y r) (fun s => -r ≤ s.2.2.2 ∧ s.2.2.2 ≤ r + 1 ∧ BmI p w x y r (decide (s.2.2.2 > 0)) (s.1, s.2.1, s.2.2.1)) (fun s => (r + 1 - s.2.2.2).toNat) (fun _ b => BmI p w x y r true b) (by
  intro s ⟨g1, g2, g3⟩
  unfold impl_BestMove_l12
  by_cases hi : s.2.2.2 ≤ r
  ·
   rw [sel_yes hi, wk (e := s.2.2.2 + 1) (by omega) (by omega), wk (e := 0 - r) (by omega) (by omega)]
   obtain ⟨o, h, ho⟩ := loop_inv (f := impl_BestMove_l14 p w x y r s) (fun v => -r ≤ v.2.2.2 ∧ v.2.2.2 ≤ r + 1 ∧ BmI p w x y r (decide (s.2.2.2 > 0 ∨ (s.2.2.2 = 0 ∧ v.2.2.2 > 0))) (v.1, v.2.1, v.2.2.1)) (fun v => (r + 1 - v.2.2.2).toNat) (fun _ b => BmI p w x y r (decide (s.2.2.2 + 1 > 0)) b) (by
    intro v ⟨f1, f2, f3⟩
    by_cases hv : v.2.2.2 ≤ r
    ·
     obtain ⟨b, e, hb⟩ := bm_step ok hw hr h0 s ⟨g1, hi⟩ v ⟨f1, hv⟩ _ f3 (by rw [decide_eq_true_eq])
     exact .inr ⟨_, e, ⟨by simp only; omega, by simp only; omega, hb⟩, by simp only; omega, fun _ h => h⟩
    ·
     refine .inl ⟨(v.1, v.2.1, v.2.2.1), ?_, ?_⟩
     ·
      unfold impl_BestMove_l14; rw [sel_no hv]
     ·
      have : decide (s.2.2.2 > 0 ∨ (s.2.2.2 = 0 ∧ v.2.2.2 > 0)) = decide (s.2.2.2 + 1 > 0) := by
       rw [decide_eq_decide]; omega
      rw [this] at f3
      exact f3) (s.1, s.2.1, s.2.2.1, 0 - r) ⟨by simp only; omega, by simp only; omega, by
    have : decide (s.2.2.2 > 0 ∨ (s.2.2.2 = 0 ∧ 0 - r > 0)) = decide (s.2.2.2 > 0) := by rw [decide_eq_decide]; omega
    simp only
    rw [this]; exact g3⟩
   rw [h, bnd_s]
   exact .inr ⟨_, rfl, ⟨by simp only; omega, by simp only; omega, ho⟩, by simp only; omega, fun _ h => h⟩
  ·
   rw [sel_no hi]
   refine .inl ⟨_, rfl, ?_⟩
   rw [decide_eq_true (by omega)] at g3
   exact g3) (0, 0, -1, 0 - r) ⟨by simp only; omega, by simp only; omega, .inl ⟨rfl, by simp only [decide_eq_false_iff_not]; omega⟩⟩
 rw [h, bnd_s]
 rcases ho with ⟨_, h2⟩ | ⟨h1, h2, h3, h4, h5⟩
 ·
  cases h2
 ·
  exact ⟨_, rfl, h1, h2, h3, h4, h5 rfl⟩
def inB (B : Int) (l : List Int) : Prop := ∀ x ∈ l, -B ≤ x ∧ x ≤ B
theorem inB_mono {B C : Int} {l : List Int} (h : inB B l) (hc : B ≤ C) : inB C l := fun x hx => by have := h x hx; omega
theorem inB_append {B : Int} {a b : List Int} (ha : inB B a) (hb : inB B b) : inB B (a ++ b) := fun x hx => (List.mem_append.1 hx).elim (ha x) (hb x)
theorem inB_nil (B : Int) : inB B [] := fun x hx => by simp at hx
theorem inB_one {B x : Int} (h : -B ≤ x ∧ x ≤ B) : inB B [x] := fun y hy => by rw [List.mem_singleton.1 hy]; exact h
theorem inB_set {B : Int} {l : List Int} (h : inB B l) (i : Nat) {y : Int} (hy : -B ≤ y ∧ y ≤ B) : inB B (l.set i y) := fun x hx => by
 rcases List.mem_or_eq_of_mem_set hx with hx | hx
 ·
  exact h x hx
 ·
  rw [hx]; exact hy
theorem inB_rep (n : Nat) {B : Int} (h : 0 ≤ B) : inB B (List.replicate n 0) := fun x hx => by rw [List.eq_of_mem_replicate hx]; omega
theorem inB_at {B : Int} {l : List Int} (h : inB B l) {i : Nat} (hi : i < l.length) : -B ≤ l.getD i 0 ∧ l.getD i 0 ≤ B := h _ (by rw [getD_at l i hi]; exact List.getElem_mem _)
theorem inB_take {B : Int} {l : List Int} (h : inB B l) (n : Nat) : inB B (l.take n) := fun x hx => h x (List.mem_of_mem_take hx)
theorem inB_drop {B : Int} {l : List Int} (h : inB B l) (n : Nat) : inB B (l.drop n) := fun x hx => h x (List.mem_of_mem_drop hx)
theorem st_loop {S : Type} {f : Int × S → Option (Lp (Int × S) S)} (n : Nat) (I : Nat → S → Prop) (hs : ∀ (i : Nat) (l : S), i < n → I i l → ∃ l', f ((i : Int), l) = some (.go (((i + 1 : Nat) : Int), l')) ∧ I (i + 1) l') (he : ∀ l, f ((n : Int), l) = some (.done l)) (l0 : S) (h0 : I 0 l0) : ∃ o, loop f (0, l0) = some o ∧ I n o := by
 have key : ∀ i : Nat, i ≤ n → ∀ l, I i l → ∃ o, loop f ((i : Int), l) = some o ∧ I n o := by
  refine down_to _ ?_ ?_
  ·
   intro l h; exact ⟨l, ldone (he l), h⟩
  ·
   intro i hi ih l h
   obtain ⟨l', e, h'⟩ := hs i l hi h
   obtain ⟨o, e2, h2⟩ := ih l' h'
   exact ⟨o, lgo e e2, h2⟩
 exact key 0 (by omega) l0 h0
theorem acc_loop {S : Type} {f : S × Int → Option (Lp (S × Int) S)} (n : Nat) (I : Nat → S → Prop) (hs : ∀ (i : Nat) (l : S), i < n → I i l → ∃ l', f (l, (i : Int)) = some (.go (l', ((i + 1 : Nat) : Int))) ∧ I (i + 1) l') (he : ∀ l, f (l, (n : Int)) = some (.done l)) (l0 : S) (h0 : I 0 l0) : ∃ o, loop f (l0, 0) = some o ∧ I n o := by
 have key : ∀ i : Nat, i ≤ n → ∀ l, I i l → ∃ o, loop f (l, (i : Int)) = some o ∧ I n o := by
  refine down_to _ ?_ ?_
  ·
   intro l h; exact ⟨l, ldone (he l), h⟩
  ·
   intro i hi ih l h
   obtain ⟨l', e, h'⟩ := hs i l hi h
   obtain ⟨o, e2, h2⟩ := ih l' h'
   exact ⟨o, lgo e e2, h2⟩
 exact key 0 (by omega) l0 h0
theorem getD_set_at (l : List Int) (i j : Nat) (y : Int) (hi : i < l.length) : (l.set i y).getD j 0 = if i = j then y else l.getD j 0 := by
 rw [List.getD_eq_getElem?_getD, List.getElem?_set, List.getD_eq_getElem?_getD]
 by_cases h : i = j
 ·
  subst h; rw [if_pos rfl, if_pos rfl, if_pos hi]; rfl
 ·
  rw [if_neg h, if_neg h]
theorem map_loop {f : Int × List Int → Option (Lp (Int × List Int) (List Int))} (n : Nat) (P Q : Int → Prop) (hs : ∀ (i : Nat) (l : List Int), i < n → l.length = n → P (l.getD i 0) → ∃ y, f ((i : Int), l) = some (.go (((i + 1 : Nat) : Int), l.set i y)) ∧ Q y) (he : ∀ l, f ((n : Int), l) = some (.done l)) (l0 : List Int) (h0 : l0.length = n) (hb : ∀ x ∈ l0, P x) : ∃ o, loop f (0, l0) = some o ∧ o.length = n ∧ ∀ x ∈ o, Q x := by
 obtain ⟨o, e, h1, h2, _⟩ := st_loop (f := f) n (fun i l => l.length = n ∧ (∀ j, j < i → Q (l.getD j 0)) ∧ ∀ j, i ≤ j → j < n → P (l.getD j 0)) (by
  intro i l hi ⟨g1, g2, g3⟩
  obtain ⟨y, e, hy⟩ := hs i l hi g1 (g3 i (Nat.le_refl _) hi)
  refine ⟨_, e, by rw [List.length_set]; exact g1, fun j hj => ?_, fun j hj hj2 => ?_⟩
  ·
   rw [getD_set_at l i j y (by omega)]
   by_cases h : i = j
   ·
    rw [if_pos h]; exact hy
   ·
    rw [if_neg h]; exact g2 j (by omega)
  ·
   rw [getD_set_at l i j y (by omega), if_neg (by omega)]; exact g3 j (by omega) hj2) he l0 ⟨h0, fun j hj => by omega, fun j _ hj => hb _ (by rw [getD_at l0 j (by omega)]; exact List.getElem_mem _)⟩
 refine ⟨o, e, h1, fun x hx => ?_⟩
 obtain ⟨j, hj, rfl⟩ := List.getElem_of_mem hx
 have := h2 j (by omega)
 rwa [getD_at o j hj] at this
theorem l09All_yes (l : List Int) (n B : Int) (hn : (l.length : Int) = n) (hn2 : n ≤ 1000000) (hB : 0 ≤ B ∧ B ≤ 100000000) (h : inB B l) : spec_l09All l n B = some true := by
 unfold spec_l09All
 rw [sel_neg (by simp only [bne_eq_false_iff_eq]; exact hn), self_loop l.length (f := spec_l09All_l2 l n B) (by
  intro i hi
  have := inB_at h hi
  unfold spec_l09All_l2
  rw [sel_yes (by omega), req_p (by omega), wk (e := 0 - B) (by omega) (by omega), spec_l01In_eq, bnd_s, Int.toNat_natCast, decide_eq_true (by omega), Bool.not_true, sel_f, wk (by omega) (by omega)]
  rfl) (by unfold spec_l09All_l2; rw [sel_no (by omega)]), bnd_s]
def scanInner (n i : Int) (v17 : Int × Int) : Option (Lp (Int × Int) (Ou Unit Int)) :=
 sel (decide (v17.2 ≤ (wrapK .i64 ((wrapK .i64 (2 * n)) - 2)))) (
 bnd (it (spec_ScanAt_l14 n i v17) 20 (v17.1, 0)) fun o47 => match o47 with
 | .out v43 => (
 some (.go (v43, wrapK .i64 (v17.2 + 1))))
 | .ret r => some (.done (.ret r))) (
 some (.done (.out ())))
theorem scanInner_is {n i : Int} {v : Int × Int} {x : Lp (Int × Int) (Ou Unit Int)} (h : scanInner n i v = some x) : spec_ScanAt_l12 n i v = some x := by
 unfold scanInner at h
 unfold spec_ScanAt_l12
 rcases sel_some h with ⟨hb, h⟩ | ⟨hb, h⟩
 ·
  rw [hb, sel_t]
  obtain ⟨a, h1, h2⟩ := bnd_some h
  rw [loop_it.2 ⟨20, h1⟩, bnd_s]
  exact h2
 ·
  rw [hb, sel_f]; exact h
theorem it_of {V O : Type} {f g : V → Option (Lp V O)} (hf : ∀ v y, f v = some y → g v = some y) {o : O} : ∀ (k : Nat) (v : V), it f k v = some o → it g k v = some o
 | 0, v, h => by cases h
 | k + 1, v, h => by
  rw [it] at h ⊢
  cases e : f v with
  | none => rw [e] at h; cases h
  | some s =>
   rw [e] at h
   rw [hf v s e]
   cases s with
   | go y => exact it_of hf k y h
   | done o' => exact h
def scanPlace (n i : Int) : Int := match it (scanInner n i) 20 (0, 0) with | some (.ret q) => q | _ => -1
theorem scan4_ok : ∀ i : Fin 16, (0 ≤ scanPlace 4 (i.val : Int) ∧ scanPlace 4 (i.val : Int) < 16) := by decide +kernel
theorem scan8_ok : ∀ i : Fin 64, (0 ≤ scanPlace 8 (i.val : Int) ∧ scanPlace 8 (i.val : Int) < 64) := by decide +kernel
theorem scanPlace_in (n : Int) (hn : n = 4 ∨ n = 8) (i : Nat) (hi : (i : Int) < n * n) : 0 ≤ scanPlace n i ∧ scanPlace n i < n * n := by
 rcases hn with rfl | rfl
 ·
  exact scan4_ok ⟨i, by omega⟩
 ·
  exact scan8_ok ⟨i, by omega⟩
theorem spec_ScanAt_ev (n : Int) (hn : n = 4 ∨ n = 8) (i : Nat) (hi : (i : Int) < n * n) : spec_ScanAt n i = some (scanPlace n i) := by
 have hp := scanPlace_in n hn i hi
 unfold spec_ScanAt
 have hw : wrapK .i64 (n * n) = n * n := by rcases hn with rfl | rfl <;> exact wk (by omega) (by omega)
 have hc : (sel (n != 4) (sel (n != 8) (some true) (sel (decide ((i : Int) < 0)) (some true) (some (decide ((i : Int) ≥ (wrapK .i64 (n * n))))))) (sel (decide ((i : Int) < 0)) (some true) (some (decide ((i : Int) ≥ (wrapK .i64 (n * n))))))) = some false := by
  rw [hw, sel_no (show ¬ (i : Int) < 0 by omega), decide_eq_false (show ¬ (i : Int) ≥ n * n by omega)]
  rcases hn with rfl | rfl <;> rfl
 rw [hc, bnd_s, sel_f]
 unfold scanPlace at hp ⊢
 cases e : it (scanInner n i) 20 (0, 0) with
 | none => rw [e] at hp; simp only at hp; omega
 | some s =>
  rw [e] at hp
  have h := it_of (fun v y => scanInner_is (n := n) (i := i)) 20 _ e
  rw [loop_it.2 ⟨20, h⟩, bnd_s]
  cases s with
  | out u => simp only at hp; omega
  | ret q => rfl
theorem spec_Scanned_ev (n : Int) (hn : n = 4 ∨ n = 8) (l : List Int) (B : Int) (hl : (l.length : Int) = n * n) (hb : inB B l) : ∃ o, spec_Scanned n l = some (o, true) ∧ o.length = l.length ∧ inB B o := by
 have hm : maxLen = 9223372036854775807 := rfl
 have hw : wrapK .i64 (n * n) = n * n := by rcases hn with rfl | rfl <;> exact wk (by omega) (by omega)
 have hl2 : l.length ≤ 64 := by rcases hn with rfl | rfl <;> omega
 unfold spec_Scanned
 have hc : (sel (n != 4) (sel (n != 8) (some true) (some ((l.length : Int) != (wrapK .i64 (n * n))))) (some ((l.length : Int) != (wrapK .i64 (n * n))))) = some false := by
  rw [hw, hl, bne_self_eq_false]
  rcases hn with rfl | rfl <;> rfl
 rw [hc, bnd_s, sel_f]
 obtain ⟨o, e, h1, h2⟩ := st_loop (f := spec_Scanned_l2 n l) l.length (fun i s => s.length = i ∧ inB B s) (by
  intro i s hi ⟨g1, g2⟩
  have hp := scanPlace_in n hn i (by omega)
  have ha := inB_at hb (i := (scanPlace n i).toNat) (by omega)
  unfold spec_Scanned_l2
  simp only
  rw [hw, sel_yes (by omega), spec_ScanAt_ev n hn i (by omega), bnd_s, req_p (by omega), req_p (by simp only [List.length_singleton]; omega), wk (by omega) (by omega)]
  exact ⟨_, rfl, by simp; omega, inB_append g2 (inB_one ha)⟩) (by intro s; unfold spec_Scanned_l2; simp only; rw [hw, sel_no (by omega)]) [] ⟨rfl, inB_nil B⟩
 exact ⟨o, (bnd_e e).trans rfl, h1, h2⟩
theorem spec_Unscanned_ev (n : Int) (hn : n = 4 ∨ n = 8) (l : List Int) (B : Int) (hB : 0 ≤ B) (hl : (l.length : Int) = n * n) (hb : inB B l) : ∃ o, spec_Unscanned n l = some (o, true) ∧ o.length = l.length ∧ inB B o := by
 have hm : maxLen = 9223372036854775807 := rfl
 have hw : wrapK .i64 (n * n) = n * n := by rcases hn with rfl | rfl <;> exact wk (by omega) (by omega)
 have hl2 : l.length ≤ 64 := by rcases hn with rfl | rfl <;> omega
 unfold spec_Unscanned
 have hc : (sel (n != 4) (sel (n != 8) (some true) (some ((l.length : Int) != (wrapK .i64 (n * n))))) (some ((l.length : Int) != (wrapK .i64 (n * n))))) = some false := by
  rw [hw, hl, bne_self_eq_false]
  rcases hn with rfl | rfl <;> rfl
 rw [hc, bnd_s, sel_f, req_p (by omega), Int.toNat_natCast]
 obtain ⟨o, e, h1, h2⟩ := st_loop (f := spec_Unscanned_l2 n l) l.length (fun i s => s.length = l.length ∧ inB B s) (by
  intro i s hi ⟨g1, g2⟩
  have hp := scanPlace_in n hn i (by omega)
  have ha := inB_at hb hi
  unfold spec_Unscanned_l2
  simp only
  rw [hw, sel_yes (by omega), spec_ScanAt_ev n hn i (by omega), bnd_s, req_p (by omega), req_p (by omega), req_p (by omega), wk (by omega) (by omega), Int.toNat_natCast]
  exact ⟨_, rfl, by rw [List.length_set]; exact g1, inB_set g2 _ ha⟩) (by intro s; unfold spec_Unscanned_l2; simp only; rw [hw, sel_no (by omega)]) (List.replicate l.length 0) ⟨List.length_replicate, inB_rep _ hB⟩
 exact ⟨o, (bnd_e e).trans rfl, h1, h2⟩
def signPlace (u v : Int) : Int := match it spec_SignOf_l2 10 (1, (IntKind.wrap .i64 (BitVec.ofInt (IntKind.bits .i64) u &&& BitVec.ofInt (IntKind.bits .i64) v).toNat)) with | some q => q | none => 7
theorem sign_ok : ∀ u v : Fin 8, (-1 ≤ signPlace (u.val : Int) (v.val : Int) ∧ signPlace (u.val : Int) (v.val : Int) ≤ 1) := by decide +kernel
theorem spec_SignOf_ev (u v : Nat) (hu : u < 8) (hv : v < 8) : ∃ s, spec_SignOf u v = some s ∧ -1 ≤ s ∧ s ≤ 1 := by
 have h := sign_ok ⟨u, hu⟩ ⟨v, hv⟩
 simp only at h
 unfold spec_SignOf
 rw [spec_l01In_eq, bnd_s, decide_eq_true (by omega), sel_t, spec_l01In_eq, bnd_s, decide_eq_true (by omega), Bool.not_true, bnd_s, sel_f]
 unfold signPlace at h
 cases e : it spec_SignOf_l2 10 (1, (IntKind.wrap .i64 (BitVec.ofInt (IntKind.bits .i64) (u : Int) &&& BitVec.ofInt (IntKind.bits .i64) (v : Int)).toNat)) with
 | none => rw [e] at h; simp only at h; omega
 | some q =>
  rw [e] at h
  rw [loop_it.2 ⟨10, e⟩, bnd_s]
  exact ⟨q, rfl, h⟩
def stepBase (qp : Int) : Int := if qp.tmod 6 = 0 then 10 else if qp.tmod 6 = 1 then 11 else if qp.tmod 6 = 2 then 13 else if qp.tmod 6 = 3 then 14 else if qp.tmod 6 = 4 then 16 else 18
def stepPlace (qp : Int) : Int := match it (spec_StepOf_l2 qp) 10 (stepBase qp, 0) with | some q => q | none => 0
theorem step_ok : ∀ q : Fin 41, (10 ≤ stepPlace (q.val : Int) ∧ stepPlace (q.val : Int) ≤ 1152) := by decide +kernel
theorem spec_StepOf_ev (qp : Int) (h0 : 0 ≤ qp ∧ qp ≤ 40) : ∃ s, spec_StepOf qp = some s ∧ 10 ≤ s ∧ s ≤ 1152 := by
 have h := step_ok ⟨qp.toNat, by omega⟩
 simp only at h
 rw [show ((qp.toNat : Nat) : Int) = qp by omega] at h
 unfold spec_StepOf
 rw [spec_l01In_eq, bnd_s, decide_eq_true (by omega), Bool.not_true, sel_f, req_p (by omega)]
 have hb : (sel ((qp.tmod 6) == 0) (some (10 : Int)) (sel ((qp.tmod 6) == 1) (some 11) (sel ((qp.tmod 6) == 2) (some 13) (sel ((qp.tmod 6) == 3) (some 14) (sel ((qp.tmod 6) == 4) (some 16) (some 18)))))) = some (stepBase qp) := by
  unfold stepBase
  simp only [sel_ite, beq_iff_eq]
  repeat' split
  all_goals rfl
 rw [hb, bnd_s]
 unfold stepPlace at h
 cases e : it (spec_StepOf_l2 qp) 10 (stepBase qp, 0) with
 | none => rw [e] at h; simp only at h; omega
 | some q =>
  rw [e] at h
  rw [loop_it.2 ⟨10, e⟩, bnd_s]
  exact ⟨q, rfl, h⟩
theorem spec_KindOf_ev (p : Int) (h : 0 ≤ p ∧ p ≤ 15) : ∃ k, spec_KindOf p = some k ∧ 0 ≤ k ∧ k ≤ 2 := by
 unfold spec_KindOf
 rw [spec_l01In_eq, bnd_s, decide_eq_true h, Bool.not_true, sel_f, req_p (by omega), req_p (by omega), req_p (by omega), req_p (by omega), sel_and, bnd_s]
 cases ((wrapK .i64 (p.tdiv 4)).tmod 2 == 0 && (p.tmod 4).tmod 2 == 0) with
 | true => exact ⟨0, rfl, by omega, by omega⟩
 | false =>
  rw [sel_f, sel_and, bnd_s]
  cases ((wrapK .i64 (p.tdiv 4)).tmod 2 == 1 && (p.tmod 4).tmod 2 == 1) with
  | true => exact ⟨1, rfl, by omega, by omega⟩
  | false => exact ⟨2, rfl, by omega, by omega⟩
theorem spec_l08Pick_ev (k a b c : Int) : ∃ x, spec_l08Pick k a b c = some x ∧ (x = a ∨ x = b ∨ x = c) := by
 unfold spec_l08Pick
 cases (k == 0) with
 | true => exact ⟨a, rfl, Or.inl rfl⟩
 | false =>
  cases (k == 1) with
  | true => exact ⟨b, rfl, Or.inr (Or.inl rfl)⟩
  | false => exact ⟨c, rfl, Or.inr (Or.inr rfl)⟩
theorem scale_loop (qp : Int) (h0 : 0 ≤ qp ∧ qp ≤ 40) (x : Int) (hx : 0 ≤ x ∧ x ≤ 29) : ∃ o, loop (spec_ScaleOf_l2 qp) (x, 0) = some o ∧ 0 ≤ o ∧ o ≤ 1856 := by
 obtain ⟨o, e, h1, h2⟩ := acc_loop (f := spec_ScaleOf_l2 qp) (qp / 6).toNat (fun i s => 0 ≤ s ∧ s ≤ 29 * 2 ^ i) (by
  intro i s hi ⟨g1, g2⟩
  have h6 : (2 : Int) ^ i ≤ 64 := by
   have : i ≤ 6 := by omega
   obtain rfl | rfl | rfl | rfl | rfl | rfl | rfl : i = 0 ∨ i = 1 ∨ i = 2 ∨ i = 3 ∨ i = 4 ∨ i = 5 ∨ i = 6 := by omega
   all_goals decide
  have h7 : (2 : Int) ^ (i + 1) = 2 * 2 ^ i := by rw [Int.pow_succ, Int.mul_comm]
  unfold spec_ScaleOf_l2
  simp only
  rw [req_p (by omega), tdiv_pos (by omega), wk (e := qp / 6) (by omega) (by omega), sel_yes (by omega), wk (e := 2 * s) (by omega) (by omega), wk (e := (i : Int) + 1) (by omega) (by omega)]
  exact ⟨_, rfl, by omega, by rw [h7]; omega⟩) (by intro s; unfold spec_ScaleOf_l2; simp only; rw [req_p (by omega), tdiv_pos (by omega), wk (e := qp / 6) (by omega) (by omega), sel_no (by omega)]) x ⟨hx.1, by simp; omega⟩
 have h6 : (2 : Int) ^ (qp / 6).toNat ≤ 64 := by
  generalize hi : (qp / 6).toNat = i
  obtain rfl | rfl | rfl | rfl | rfl | rfl | rfl : i = 0 ∨ i = 1 ∨ i = 2 ∨ i = 3 ∨ i = 4 ∨ i = 5 ∨ i = 6 := by omega
  all_goals decide
 exact ⟨o, e, h1, by omega⟩
theorem spec_ScaleOf_ev (qp p : Int) (h0 : 0 ≤ qp ∧ qp ≤ 40) (hp : 0 ≤ p ∧ p ≤ 15) : ∃ s, spec_ScaleOf qp p = some s ∧ 0 ≤ s ∧ s ≤ 1856 := by
 unfold spec_ScaleOf
 obtain ⟨k, e, k0, k1⟩ := spec_KindOf_ev p hp
 rw [e, bnd_s, spec_l01In_eq, bnd_s, decide_eq_true h0, sel_t, decide_eq_false (by omega), bnd_s, sel_f, req_p (by omega)]
 obtain ⟨a1, e1, b1⟩ := spec_l08Pick_ev k 10 16 13
 obtain ⟨a2, e2, b2⟩ := spec_l08Pick_ev k 11 18 14
 obtain ⟨a3, e3, b3⟩ := spec_l08Pick_ev k 13 20 16
 obtain ⟨a4, e4, b4⟩ := spec_l08Pick_ev k 14 23 18
 obtain ⟨a5, e5, b5⟩ := spec_l08Pick_ev k 16 25 20
 obtain ⟨a6, e6, b6⟩ := spec_l08Pick_ev k 18 29 23
 rw [e1, e2, e3, e4, e5, e6]
 simp only [bnd_s, sel_ss]
 obtain ⟨o, eo, o1, o2⟩ := scale_loop qp h0 (sel (qp.tmod 6 == 0) a1 (sel (qp.tmod 6 == 1) a2 (sel (qp.tmod 6 == 2) a3 (sel (qp.tmod 6 == 3) a4 (sel (qp.tmod 6 == 4) a5 (sel (qp.tmod 6 == 5) a6 0)))))) (by
  simp only [sel_ite]
  repeat' split
  all_goals omega)
 exact ⟨o, (bnd_e eo).trans rfl, o1, o2⟩
theorem spec_ShareOf_ev (qp p : Int) (h0 : 0 ≤ qp ∧ qp ≤ 40) (hp : 0 ≤ p ∧ p ≤ 15) : ∃ s, spec_ShareOf qp p = some s ∧ 0 ≤ s ∧ s ≤ 13107 := by
 unfold spec_ShareOf
 obtain ⟨k, e, k0, k1⟩ := spec_KindOf_ev p hp
 rw [e, bnd_s, spec_l01In_eq, bnd_s, decide_eq_true h0, sel_t, decide_eq_false (by omega), bnd_s, sel_f, req_p (by omega)]
 obtain ⟨a1, e1, b1⟩ := spec_l08Pick_ev k 13107 5243 8066
 obtain ⟨a2, e2, b2⟩ := spec_l08Pick_ev k 11916 4660 7490
 obtain ⟨a3, e3, b3⟩ := spec_l08Pick_ev k 10082 4194 6554
 obtain ⟨a4, e4, b4⟩ := spec_l08Pick_ev k 9362 3647 5825
 obtain ⟨a5, e5, b5⟩ := spec_l08Pick_ev k 8192 3355 5243
 obtain ⟨a6, e6, b6⟩ := spec_l08Pick_ev k 7282 2893 4559
 rw [e1, e2, e3, e4, e5, e6]
 simp only [bnd_s, sel_ss]
 refine ⟨_, rfl, ?_⟩
 simp only [sel_ite]
 repeat' split
 all_goals omega
theorem mul_sign {a s B : Int} (ha : -B ≤ a ∧ a ≤ B) (hs : -1 ≤ s ∧ s ≤ 1) : (-B ≤ a * s ∧ a * s ≤ B) ∧ (-B ≤ s * a ∧ s * a ≤ B) := by
 obtain rfl | rfl | rfl : s = -1 ∨ s = 0 ∨ s = 1 := by omega
 all_goals omega
theorem spec_l10Row_ev (p : List Int) (B : Int) (hB : 0 ≤ B ∧ B ≤ 1000000000000) (hl : p.length = 64) (hb : inB B p) (i v : Nat) (hi : i < 8) (hv : v < 8) : ∃ o, spec_l10Row p i v = some o ∧ -(8 * B) ≤ o ∧ o ≤ 8 * B := by
 unfold spec_l10Row
 obtain ⟨o, e, h1, h2⟩ := acc_loop (f := spec_l10Row_l2 p i v) 8 (fun k s => -(B * k) ≤ s ∧ s ≤ B * k) (by
  intro k s hk ⟨g1, g2⟩
  obtain ⟨q, eq, q0, q1⟩ := spec_SignOf_ev v k hv hk
  have ha := inB_at hb (i := 8 * i + k) (by omega)
  have hm := (mul_sign ha ⟨q0, q1⟩).1
  have hk8 : B * k ≤ B * 8 := Int.mul_le_mul_of_nonneg_left (by omega) hB.1
  have hk0 : B * ((k + 1 : Nat) : Int) = B * k + B := by rw [Int.natCast_add, Int.mul_add]; simp
  unfold spec_l10Row_l2
  simp only
  rw [sel_yes (by omega), wk (e := 8 * (i : Int)) (by omega) (by omega), wk (e := 8 * (i : Int) + (k : Int)) (by omega) (by omega), req_p (by omega), eq, bnd_s, show (8 * (i : Int) + (k : Int)).toNat = 8 * i + k by omega, wk (e := p.getD (8 * i + k) 0 * q) (by omega) (by omega), wk (e := s + p.getD (8 * i + k) 0 * q) (by omega) (by omega), wk (e := (k : Int) + 1) (by omega) (by omega)]
  exact ⟨_, rfl, by rw [hk0]; omega, by rw [hk0]; omega⟩) (by intro s; unfold spec_l10Row_l2; rw [sel_no (by simp)]) 0 (by simp)
 exact ⟨o, (bnd_e e).trans rfl, by omega, by omega⟩
theorem spec_l10Sums_ev (p : List Int) (B : Int) (hB : 0 ≤ B ∧ B ≤ 10000000000) (hl : p.length = 64) (hb : inB B p) : ∃ o, spec_l10Sums p = some o ∧ o.length = 64 ∧ inB (64 * B) o := by
 have hm : maxLen = 9223372036854775807 := rfl
 unfold spec_l10Sums
 obtain ⟨h, eh, hh1, hh2⟩ := st_loop (f := spec_l10Sums_l12 p) 8 (fun i s => s.length = 8 * i ∧ inB (8 * B) s) (by
  intro i s hi ⟨g1, g2⟩
  obtain ⟨t, et, t1, t2⟩ := st_loop (f := spec_l10Sums_l14 p ((i : Int), s)) 8 (fun v s => s.length = 8 * i + v ∧ inB (8 * B) s) (by
   intro v s hv ⟨g1, g2⟩
   obtain ⟨r, er, r1, r2⟩ := spec_l10Row_ev p B ⟨hB.1, by omega⟩ hl hb i v hi hv
   unfold spec_l10Sums_l14
   simp only
   rw [sel_yes (by omega), er, bnd_s, req_p (by simp only [List.length_singleton]; omega), wk (e := (v : Int) + 1) (by omega) (by omega)]
   exact ⟨_, rfl, by simp; omega, inB_append g2 (inB_one ⟨by omega, r2⟩)⟩) (by intro s; unfold spec_l10Sums_l14; rw [sel_no (by simp)]) s ⟨by omega, g2⟩
  unfold spec_l10Sums_l12
  simp only
  rw [sel_yes (by omega), et, bnd_s, wk (e := (i : Int) + 1) (by omega) (by omega)]
  exact ⟨_, rfl, by omega, t2⟩) (by intro s; unfold spec_l10Sums_l12; rw [sel_no (by simp)]) [] ⟨rfl, inB_nil _⟩
 rw [eh, bnd_s]
 obtain ⟨o, eo, o1, o2⟩ := st_loop (f := spec_l10Sums_l146 h) 8 (fun i s => s.length = 8 * i ∧ inB (64 * B) s) (by
  intro i s hi ⟨g1, g2⟩
  obtain ⟨t, et, t1, t2⟩ := st_loop (f := spec_l10Sums_l168 h ((i : Int), s)) 8 (fun v s => s.length = 8 * i + v ∧ inB (64 * B) s) (by
   intro v r hv ⟨g1, g2⟩
   obtain ⟨a, ea, a1, a2⟩ := acc_loop (f := spec_l10Sums_l172 h ((i : Int), s) ((v : Int), r)) 8 (fun k s => -(8 * B * k) ≤ s ∧ s ≤ 8 * B * k) (by
    intro k c hk ⟨g1, g2⟩
    obtain ⟨q, eq, q0, q1⟩ := spec_SignOf_ev i k hi hk
    have ha := inB_at hh2 (i := 8 * k + v) (by omega)
    have hm := (mul_sign ha ⟨q0, q1⟩).2
    have hk8 : 8 * B * k ≤ 8 * B * 8 := Int.mul_le_mul_of_nonneg_left (by omega) (by omega)
    have hk0 : 8 * B * ((k + 1 : Nat) : Int) = 8 * B * k + 8 * B := by rw [Int.natCast_add, Int.mul_add]; simp
    unfold spec_l10Sums_l172
    simp only
    rw [sel_yes (by omega), eq, bnd_s, wk (e := 8 * (k : Int)) (by omega) (by omega), wk (e := 8 * (k : Int) + (v : Int)) (by omega) (by omega), req_p (by omega), req_p (by omega), show (8 * (k : Int) + (v : Int)).toNat = 8 * k + v by omega, wk (e := q * h.getD (8 * k + v) 0) (by omega) (by omega), wk (e := c + q * h.getD (8 * k + v) 0) (by omega) (by omega), wk (e := (k : Int) + 1) (by omega) (by omega)]
    exact ⟨_, rfl, by rw [hk0]; omega, by rw [hk0]; omega⟩) (by intro s; unfold spec_l10Sums_l172; rw [sel_no (by simp)]) 0 (by simp)
   unfold spec_l10Sums_l168
   simp only
   rw [sel_yes (by omega), ea, bnd_s, req_p (by simp only [List.length_singleton]; omega), wk (e := (v : Int) + 1) (by omega) (by omega)]
   exact ⟨_, rfl, by simp; omega, inB_append g2 (inB_one ⟨by omega, by omega⟩)⟩) (by intro s; unfold spec_l10Sums_l168; rw [sel_no (by simp)]) s ⟨by omega, g2⟩
  unfold spec_l10Sums_l146
  simp only
  rw [sel_yes (by omega), et, bnd_s, wk (e := (i : Int) + 1) (by omega) (by omega)]
  exact ⟨_, rfl, by omega, t2⟩) (by intro s; unfold spec_l10Sums_l146; rw [sel_no (by simp)]) [] ⟨rfl, inB_nil _⟩
 exact ⟨o, (bnd_e eo).trans rfl, by omega, o2⟩
theorem spec_l09Down_ev (a b : Int) (ha : -1000000000000 ≤ a ∧ a ≤ 1000000000000) (hb : b = 2 ∨ b = 64) : ∃ d, spec_l09Down a b = some d ∧ b * d ≤ a ∧ a < b * d + b := by
 unfold spec_l09Down
 have h1 : b * (a.tdiv b) + a.tmod b = a := Int.mul_tdiv_add_tmod a b
 have h2 : -b < a.tmod b ∧ a.tmod b < b := by
  have hb0 : 0 < b := by omega
  refine ⟨?_, Int.tmod_lt_of_pos a hb0⟩
  have := Int.lt_tmod_of_pos a hb0
  omega
 rw [req_p (by omega), req_p (by omega)]
 generalize a.tmod b = m at h1 h2
 generalize a.tdiv b = t at h1 h2
 have ht : -1000000000001 ≤ t ∧ t ≤ 1000000000001 := by rcases hb with rfl | rfl <;> omega
 by_cases h : m < 0
 ·
  rw [sel_yes h, bnd_s, wk (e := t) (by omega) (by omega), wk (e := t - 1) (by omega) (by omega)]
  refine ⟨_, rfl, ?_⟩
  rcases hb with rfl | rfl <;> omega
 ·
  rw [sel_no h, bnd_s, wk (e := t) (by omega) (by omega)]
  refine ⟨_, rfl, ?_⟩
  rcases hb with rfl | rfl <;> omega
theorem spec_Eight_ev (p : List Int) (hl : p.length = 64) (hb : inB 255 p) : ∃ o, spec_Eight p = some o ∧ o.length = 64 := by
 unfold spec_Eight
 obtain ⟨o, e, h1, h2⟩ := spec_l10Sums_ev p 255 (by omega) hl hb
 rw [l09All_yes p 64 1000 (by omega) (by omega) (by omega) (inB_mono hb (by omega)), bnd_s, Bool.not_true, sel_f, e, bnd_s]
 exact ⟨o, rfl, h1⟩
theorem spec_EightBack_ev (p : List Int) (hl : p.length = 64) (hb : inB 5760000 p) : ∃ o, spec_EightBack p = some o ∧ o.length = 64 ∧ inB 10000000 o := by
 unfold spec_EightBack
 obtain ⟨o, e, h1, h2⟩ := spec_l10Sums_ev p 5760000 (by omega) hl hb
 rw [l09All_yes p 64 10000000 (by omega) (by omega) (by omega) (inB_mono hb (by omega)), bnd_s, Bool.not_true, sel_f, e, bnd_s]
 obtain ⟨r, er, r1, r2⟩ := map_loop (f := spec_EightBack_l2) 64 (fun x => -368640000 ≤ x ∧ x ≤ 368640000) (fun x => -10000000 ≤ x ∧ x ≤ 10000000) (by
  intro i l hi hll hx
  obtain ⟨d, ed, d1, d2⟩ := spec_l09Down_ev (l.getD i 0 + 32) 64 (by omega) (Or.inr rfl)
  unfold spec_EightBack_l2
  simp only [Int.toNat_natCast]
  rw [sel_yes (by omega), req_p (by omega), req_p (by omega), wk (e := l.getD i 0 + 32) (by omega) (by omega), ed, bnd_s, req_p (by omega), req_p (by omega), wk (e := (i : Int) + 1) (by omega) (by omega)]
  exact ⟨d, rfl, by omega, by omega⟩) (by intro s; unfold spec_EightBack_l2; rw [sel_no (by simp)]) o h1 (fun x hx => by have := h2 x hx; omega)
 exact ⟨r, (bnd_e er).trans rfl, r1, r2⟩
theorem spec_l09Flip_ev (p : List Int) (B : Int) (hB : 0 ≤ B) (hl : p.length = 16) (hb : inB B p) : ∃ o, spec_l09Flip p = some o ∧ o.length = 16 ∧ inB B o := by
 unfold spec_l09Flip
 rw [req_p (by omega)]
 obtain ⟨o, e, h1, h2⟩ := st_loop (f := spec_l09Flip_l2 p) 16 (fun i s => s.length = 16 ∧ inB B s) (by
  intro i s hi ⟨g1, g2⟩
  have ha := inB_at hb (i := i) (by omega)
  unfold spec_l09Flip_l2
  simp only
  rw [sel_yes (by omega), req_p (by omega), req_p (by omega), req_p (by omega), tmod_pos (by omega), tdiv_pos (by omega), wk (e := (i : Int) / 4) (by omega) (by omega), wk (e := (i : Int) % 4 * 4) (by omega) (by omega), wk (e := (i : Int) % 4 * 4 + (i : Int) / 4) (by omega) (by omega), req_p (by omega), req_p (by omega), wk (e := (i : Int) + 1) (by omega) (by omega), Int.toNat_natCast]
  exact ⟨_, rfl, by rw [List.length_set]; exact g1, inB_set g2 _ ha⟩) (by intro s; unfold spec_l09Flip_l2; rw [sel_no (by simp)]) (List.replicate (16 : Int).toNat 0) ⟨by simp, inB_rep _ hB⟩
 exact ⟨o, (bnd_e e).trans rfl, h1, h2⟩
theorem inB_four {B a b c d : Int} (h1 : -B ≤ a ∧ a ≤ B) (h2 : -B ≤ b ∧ b ≤ B) (h3 : -B ≤ c ∧ c ≤ B) (h4 : -B ≤ d ∧ d ≤ B) : inB B [a, b, c, d] := fun x hx => by
 simp only [List.mem_cons, List.not_mem_nil, or_false] at hx
 rcases hx with rfl | rfl | rfl | rfl
 ·
  exact h1
 ·
  exact h2
 ·
  exact h3
 ·
  exact h4
theorem spec_l09Rows_ev (p : List Int) (B : Int) (hB : 0 ≤ B ∧ B ≤ 1000000000) (hl : p.length = 16) (hb : inB B p) : ∃ o, spec_l09Rows p = some o ∧ o.length = 16 ∧ inB (6 * B) o := by
 have hm : maxLen = 9223372036854775807 := rfl
 unfold spec_l09Rows
 obtain ⟨o, e, h1, h2⟩ := st_loop (f := spec_l09Rows_l2 p) 4 (fun i s => s.length = 4 * i ∧ inB (6 * B) s) (by
  intro i s hi ⟨g1, g2⟩
  have a0 := inB_at hb (i := 4 * i) (by omega)
  have a1 := inB_at hb (i := 4 * i + 1) (by omega)
  have a2 := inB_at hb (i := 4 * i + 2) (by omega)
  have a3 := inB_at hb (i := 4 * i + 3) (by omega)
  unfold spec_l09Rows_l2
  simp only
  rw [sel_yes (by omega), wk (e := 4 * (i : Int)) (by omega) (by omega), wk (e := 4 * (i : Int) + 1) (by omega) (by omega), wk (e := 4 * (i : Int) + 2) (by omega) (by omega), wk (e := 4 * (i : Int) + 3) (by omega) (by omega), req_p (by omega), req_p (by omega), req_p (by omega), req_p (by omega), show (4 * (i : Int)).toNat = 4 * i by omega, show (4 * (i : Int) + 1).toNat = 4 * i + 1 by omega, show (4 * (i : Int) + 2).toNat = 4 * i + 2 by omega, show (4 * (i : Int) + 3).toNat = 4 * i + 3 by omega]
  generalize p.getD (4 * i) 0 = a at *
  generalize p.getD (4 * i + 1) 0 = b at *
  generalize p.getD (4 * i + 2) 0 = c at *
  generalize p.getD (4 * i + 3) 0 = d at *
  rw [wk (e := (i : Int) + 1) (by omega) (by omega)]
  have w1 : wrapK .i64 (wrapK .i64 (wrapK .i64 (a + b) + c) + d) = a + b + c + d := by
   rw [wk (e := a + b) (by omega) (by omega), wk (e := a + b + c) (by omega) (by omega), wk (by omega) (by omega)]
  have w2 : wrapK .i64 (wrapK .i64 (wrapK .i64 (wrapK .i64 (2 * a) + b) - c) - wrapK .i64 (2 * d)) = 2 * a + b - c - 2 * d := by
   rw [wk (e := 2 * a) (by omega) (by omega), wk (e := 2 * d) (by omega) (by omega), wk (e := 2 * a + b) (by omega) (by omega), wk (e := 2 * a + b - c) (by omega) (by omega), wk (by omega) (by omega)]
  have w3 : wrapK .i64 (wrapK .i64 (wrapK .i64 (a - b) - c) + d) = a - b - c + d := by
   rw [wk (e := a - b) (by omega) (by omega), wk (e := a - b - c) (by omega) (by omega), wk (by omega) (by omega)]
  have w4 : wrapK .i64 (wrapK .i64 (wrapK .i64 (a - wrapK .i64 (2 * b)) + wrapK .i64 (2 * c)) - d) = a - 2 * b + 2 * c - d := by
   rw [wk (e := 2 * b) (by omega) (by omega), wk (e := 2 * c) (by omega) (by omega), wk (e := a - 2 * b) (by omega) (by omega), wk (e := a - 2 * b + 2 * c) (by omega) (by omega), wk (by omega) (by omega)]
  rw [w1, w2, w3, w4, req_p (by simp only [List.length_cons, List.length_nil]; omega)]
  exact ⟨_, rfl, by simp; omega, inB_append g2 (inB_four (by omega) (by omega) (by omega) (by omega))⟩) (by intro s; unfold spec_l09Rows_l2; rw [sel_no (by simp)]) [] ⟨rfl, inB_nil _⟩
 exact ⟨o, (bnd_e e).trans rfl, h1, h2⟩
theorem spec_l09Backs_ev (p : List Int) (B : Int) (hB : 0 ≤ B ∧ B ≤ 1000000000) (hl : p.length = 16) (hb : inB B p) : ∃ o, spec_l09Backs p = some o ∧ o.length = 16 ∧ inB (4 * B + 2) o := by
 have hm : maxLen = 9223372036854775807 := rfl
 unfold spec_l09Backs
 obtain ⟨o, e, h1, h2⟩ := st_loop (f := spec_l09Backs_l2 p) 4 (fun i s => s.length = 4 * i ∧ inB (4 * B + 2) s) (by
  intro i s hi ⟨g1, g2⟩
  have a0 := inB_at hb (i := 4 * i) (by omega)
  have a1 := inB_at hb (i := 4 * i + 1) (by omega)
  have a2 := inB_at hb (i := 4 * i + 2) (by omega)
  have a3 := inB_at hb (i := 4 * i + 3) (by omega)
  obtain ⟨f, ef, f1, f2⟩ := spec_l09Down_ev (p.getD (4 * i + 1) 0) 2 (by omega) (Or.inl rfl)
  obtain ⟨g, eg, g1', g2'⟩ := spec_l09Down_ev (p.getD (4 * i + 3) 0) 2 (by omega) (Or.inl rfl)
  unfold spec_l09Backs_l2
  simp only
  rw [sel_yes (by omega), wk (e := 4 * (i : Int)) (by omega) (by omega), wk (e := 4 * (i : Int) + 1) (by omega) (by omega), wk (e := 4 * (i : Int) + 2) (by omega) (by omega), wk (e := 4 * (i : Int) + 3) (by omega) (by omega), req_p (by omega), req_p (by omega), req_p (by omega), req_p (by omega), show (4 * (i : Int)).toNat = 4 * i by omega, show (4 * (i : Int) + 1).toNat = 4 * i + 1 by omega, show (4 * (i : Int) + 2).toNat = 4 * i + 2 by omega, show (4 * (i : Int) + 3).toNat = 4 * i + 3 by omega, ef, bnd_s, eg, bnd_s]
  generalize p.getD (4 * i) 0 = a at *
  generalize p.getD (4 * i + 1) 0 = b at *
  generalize p.getD (4 * i + 2) 0 = c at *
  generalize p.getD (4 * i + 3) 0 = d at *
  rw [wk (e := (i : Int) + 1) (by omega) (by omega), wk (e := a + c) (by omega) (by omega), wk (e := a - c) (by omega) (by omega), wk (e := b + g) (by omega) (by omega), wk (e := f - d) (by omega) (by omega), wk (e := a + c + (b + g)) (by omega) (by omega), wk (e := a - c + (f - d)) (by omega) (by omega), wk (e := a - c - (f - d)) (by omega) (by omega), wk (e := a + c - (b + g)) (by omega) (by omega), req_p (by simp only [List.length_cons, List.length_nil]; omega)]
  exact ⟨_, rfl, by simp; omega, inB_append g2 (inB_four (by omega) (by omega) (by omega) (by omega))⟩) (by intro s; unfold spec_l09Backs_l2; rw [sel_no (by simp)]) [] ⟨rfl, inB_nil _⟩
 exact ⟨o, (bnd_e e).trans rfl, h1, h2⟩
theorem spec_Four_ev (p : List Int) (hl : p.length = 16) (hb : inB 255 p) : ∃ o, spec_Four p = some o ∧ o.length = 16 ∧ inB 9180 o := by
 unfold spec_Four
 obtain ⟨a, ea, a1, a2⟩ := spec_l09Rows_ev p 255 (by omega) hl hb
 obtain ⟨b, eb, b1, b2⟩ := spec_l09Flip_ev a (6 * 255) (by omega) a1 a2
 obtain ⟨c, ec, c1, c2⟩ := spec_l09Rows_ev b (6 * 255) (by omega) b1 b2
 obtain ⟨d, ed, d1, d2⟩ := spec_l09Flip_ev c (6 * (6 * 255)) (by omega) c1 c2
 rw [l09All_yes p 16 1000 (by omega) (by omega) (by omega) (inB_mono hb (by omega)), bnd_s, Bool.not_true, sel_f, ea, bnd_s, eb, bnd_s, ec, bnd_s, ed, bnd_s]
 exact ⟨d, rfl, d1, d2⟩
theorem spec_FourBack_ev (p : List Int) (hl : p.length = 16) (hb : inB 10000000 p) : ∃ o, spec_FourBack p = some o ∧ o.length = 16 ∧ inB 10000000 o := by
 unfold spec_FourBack
 obtain ⟨a, ea, a1, a2⟩ := spec_l09Backs_ev p 10000000 (by omega) hl hb
 obtain ⟨b, eb, b1, b2⟩ := spec_l09Flip_ev a _ (by omega) a1 a2
 obtain ⟨c, ec, c1, c2⟩ := spec_l09Backs_ev b _ (by omega) b1 b2
 obtain ⟨d, ed, d1, d2⟩ := spec_l09Flip_ev c _ (by omega) c1 c2
 rw [l09All_yes p 16 10000000 (by omega) (by omega) (by omega) hb, bnd_s, Bool.not_true, sel_f, ea, bnd_s, eb, bnd_s, ec, bnd_s, ed, bnd_s]
 obtain ⟨r, er, r1, r2⟩ := map_loop (f := spec_FourBack_l2) 16 (fun x => -160000010 ≤ x ∧ x ≤ 160000010) (fun x => -10000000 ≤ x ∧ x ≤ 10000000) (by
  intro i l hi hll hx
  obtain ⟨d, ed, d1, d2⟩ := spec_l09Down_ev (l.getD i 0 + 32) 64 (by omega) (Or.inr rfl)
  unfold spec_FourBack_l2
  simp only [Int.toNat_natCast]
  rw [sel_yes (by omega), req_p (by omega), req_p (by omega), wk (e := l.getD i 0 + 32) (by omega) (by omega), ed, bnd_s, req_p (by omega), req_p (by omega), wk (e := (i : Int) + 1) (by omega) (by omega)]
  exact ⟨d, rfl, by omega, by omega⟩) (by intro s; unfold spec_FourBack_l2; rw [sel_no (by simp)]) d d1 (fun x hx => by have := d2 x hx; omega)
 exact ⟨r, (bnd_e er).trans rfl, r1, r2⟩
theorem spec_l08Sized_eq (x : Int) (h : -1000000000000 ≤ x ∧ x ≤ 1000000000000) : spec_l08Sized x = some (absI x) := by
 unfold spec_l08Sized absI
 by_cases hx : x < 0
 ·
  rw [sel_yes hx, if_pos hx, wk (by omega) (by omega)]; congr 1; omega
 ·
  rw [sel_no hx, if_neg hx]
theorem spec_l08Signed_ev (w x B : Int) (h : 0 ≤ x ∧ x ≤ B) (hB : B ≤ 1000000000) : ∃ o, spec_l08Signed w x = some o ∧ -B ≤ o ∧ o ≤ B := by
 unfold spec_l08Signed
 by_cases hx : w < 0
 ·
  rw [sel_yes hx, wk (by omega) (by omega)]; exact ⟨_, rfl, by omega, by omega⟩
 ·
  rw [sel_no hx]; exact ⟨_, rfl, by omega, by omega⟩
def shl15 (qp : Int) : Int := wrapK .i64 (1 * 2 ^ min (wrapK .u64 (wrapK .i64 (15 + (wrapK .i64 (qp.tdiv 6))))).toNat (IntKind.bits .i64))
theorem shl15_ok : ∀ q : Fin 41, (0 ≤ wrapK .u64 (wrapK .i64 (15 + (wrapK .i64 ((q.val : Int).tdiv 6)))) ∧ 32768 ≤ shl15 (q.val : Int) ∧ shl15 (q.val : Int) ≤ 2097152) := by decide +kernel
theorem spec_SmallLevel_ev (w qp p : Int) (hw : -9180 ≤ w ∧ w ≤ 9180) (h0 : 0 ≤ qp ∧ qp ≤ 40) (hp : 0 ≤ p ∧ p ≤ 15) : ∃ o, spec_SmallLevel w qp p = some o ∧ -5000 ≤ o ∧ o ≤ 5000 := by
 have hs := shl15_ok ⟨qp.toNat, by omega⟩
 simp only at hs
 rw [show ((qp.toNat : Nat) : Int) = qp by omega] at hs
 obtain ⟨s1, s2, s3⟩ := hs
 obtain ⟨s, es, q0, q1⟩ := spec_ShareOf_ev qp p h0 hp
 unfold spec_SmallLevel
 have en : wrapK .i64 (1 * 2 ^ min (wrapK .u64 (wrapK .i64 (15 + (wrapK .i64 (qp.tdiv 6))))).toNat (IntKind.bits .i64)) = shl15 qp := rfl
 rw [spec_l01In_eq, bnd_s, decide_eq_true (by omega), sel_t, spec_l01In_eq, bnd_s, decide_eq_true h0, sel_t, spec_l01In_eq, bnd_s, decide_eq_true hp, Bool.not_true, bnd_s, sel_f, req_p (by omega), req_p s1, spec_l08Sized_eq w (by omega), bnd_s, es, bnd_s, req_p (by omega), en]
 generalize shl15 qp = n at *
 have ha : 0 ≤ absI w ∧ absI w ≤ 9180 := by unfold absI; split <;> omega
 generalize absI w = a at *
 have hm : 0 ≤ a * s ∧ a * s ≤ 9180 * 13107 := ⟨Int.mul_nonneg ha.1 q0, Int.mul_le_mul ha.2 q1 q0 (by omega)⟩
 rw [req_p (by omega), wk (e := a * s) (by omega) (by omega), tdiv_pos (a := n) (by omega), wk (e := n / 3) (by omega) (by omega), wk (e := a * s + n / 3) (by omega) (by omega), tdiv_pos (by omega)]
 have d0 : 0 ≤ (a * s + n / 3) / n := Int.ediv_nonneg (by omega) (by omega)
 have d1 : (a * s + n / 3) / n < 5000 := Int.ediv_lt_of_lt_mul (by omega) (by omega)
 rw [wk (by omega) (by omega)]
 obtain ⟨o, eo, o1, o2⟩ := spec_l08Signed_ev w _ 5000 ⟨d0, by omega⟩ (by omega)
 rw [eo, bnd_s]
 exact ⟨o, rfl, o1, o2⟩
theorem spec_LargeLevel_ev (w qp : Int) (h0 : 0 ≤ qp ∧ qp ≤ 40) : ∃ o, spec_LargeLevel w qp = some o ∧ -5000 ≤ o ∧ o ≤ 5000 := by
 unfold spec_LargeLevel
 rw [spec_l01In_eq, bnd_s]
 by_cases hw : -20000 ≤ w ∧ w ≤ 20000
 ·
  obtain ⟨s, es, q0, q1⟩ := spec_StepOf_ev qp h0
  rw [decide_eq_true hw, sel_t, spec_l01In_eq, bnd_s, decide_eq_true h0, Bool.not_true, bnd_s, sel_f, es, bnd_s, spec_l08Sized_eq w (by omega), bnd_s]
  have ha : 0 ≤ absI w ∧ absI w ≤ 20000 := by unfold absI; split <;> omega
  generalize absI w = a at *
  rw [req_p (by omega), req_p (by omega), tdiv_pos (a := s) (by omega), wk (e := s / 2) (by omega) (by omega), wk (e := a + s / 2) (by omega) (by omega), tdiv_pos (by omega)]
  have d0 : 0 ≤ (a + s / 2) / s := Int.ediv_nonneg (by omega) (by omega)
  have d1 : (a + s / 2) / s < 5000 := Int.ediv_lt_of_lt_mul (by omega) (by omega)
  rw [wk (by omega) (by omega)]
  obtain ⟨o, eo, o1, o2⟩ := spec_l08Signed_ev w _ 5000 ⟨d0, by omega⟩ (by omega)
  rw [eo, bnd_s]
  exact ⟨o, rfl, o1, o2⟩
 ·
  rw [decide_eq_false hw, sel_f, bnd_s, sel_t]
  exact ⟨0, rfl, by omega, by omega⟩
theorem spec_SmallBack_ev (l qp p : Int) (hl : -5000 ≤ l ∧ l ≤ 5000) (h0 : 0 ≤ qp ∧ qp ≤ 40) (hp : 0 ≤ p ∧ p ≤ 15) : ∃ o, spec_SmallBack l qp p = some o ∧ -10000000 ≤ o ∧ o ≤ 10000000 := by
 unfold spec_SmallBack
 obtain ⟨s, es, q0, q1⟩ := spec_ScaleOf_ev qp p h0 hp
 rw [spec_l01In_eq, bnd_s, decide_eq_true hl, Bool.not_true, sel_f, es, bnd_s]
 have m1 : l * s ≤ 5000 * s := Int.mul_le_mul_of_nonneg_right hl.2 q0
 have m2 : -5000 * s ≤ l * s := Int.mul_le_mul_of_nonneg_right hl.1 q0
 rw [wk (by omega) (by omega)]
 exact ⟨_, rfl, by omega, by omega⟩
theorem spec_LargeBack_ev (l qp : Int) (hl : -5000 ≤ l ∧ l ≤ 5000) (h0 : 0 ≤ qp ∧ qp ≤ 40) : ∃ o, spec_LargeBack l qp = some o ∧ -5760000 ≤ o ∧ o ≤ 5760000 := by
 unfold spec_LargeBack
 obtain ⟨s, es, q0, q1⟩ := spec_StepOf_ev qp h0
 rw [spec_l01In_eq, bnd_s, decide_eq_true hl, Bool.not_true, sel_f, es, bnd_s]
 have m1 : l * s ≤ 5000 * s := Int.mul_le_mul_of_nonneg_right hl.2 (by omega)
 have m2 : -5000 * s ≤ l * s := Int.mul_le_mul_of_nonneg_right hl.1 (by omega)
 rw [wk (by omega) (by omega)]
 exact ⟨_, rfl, by omega, by omega⟩
theorem lv64_of {l : List Int} (h1 : l.length = 64) (h2 : inB 5000 l) : lv64 l = true := by
 unfold lv64
 rw [Bool.and_eq_true, decide_eq_true_eq, List.all_eq_true]
 exact ⟨h1, fun x hx => by unfold lvIn; rw [decide_eq_true_eq]; exact h2 x hx⟩
theorem lv64_in {l : List Int} (h : lv64 l = true) : l.length = 64 ∧ inB 5000 l := by
 obtain ⟨h1, h2⟩ := lv64_parts h
 refine ⟨h1, fun x hx => ?_⟩
 have := List.all_eq_true.1 h2 x hx
 unfold lvIn at this
 rwa [decide_eq_true_eq] at this
theorem condOk_qp {c : Cond} (h : condOk c = true) : 0 ≤ c.Qp ∧ c.Qp ≤ 40 := by
 unfold condOk at h
 rw [Bool.and_eq_true, decide_eq_true_eq] at h
 exact h.1
theorem spec_l14Quarter_ev (p : List Int) (k : Nat) (hk : k < 4) (B : Int) (hl : p.length = 64) (hb : inB B p) : ∃ o, spec_l14Quarter p k = some o ∧ o.length = 16 ∧ inB B o := by
 have hm : maxLen = 9223372036854775807 := rfl
 unfold spec_l14Quarter
 obtain ⟨o, e, h1, h2⟩ := st_loop (f := spec_l14Quarter_l2 p k) 16 (fun i s => s.length = i ∧ inB B s) (by
  intro i s hi ⟨g1, g2⟩
  have ha := inB_at hb (i := (8 * ((k : Int) / 2 * 4 + (i : Int) / 4) + (k : Int) % 2 * 4 + (i : Int) % 4).toNat) (by omega)
  unfold spec_l14Quarter_l2
  simp only
  rw [sel_yes (by omega), req_p (by omega), req_p (by omega), req_p (by omega), req_p (by omega), tdiv_pos (a := (k : Int)) (by omega), tdiv_pos (a := (i : Int)) (by omega), tmod_pos (a := (k : Int)) (by omega), tmod_pos (a := (i : Int)) (by omega), wk (e := (k : Int) / 2) (by omega) (by omega), wk (e := (k : Int) / 2 * 4) (by omega) (by omega), wk (e := (i : Int) / 4) (by omega) (by omega), wk (e := (k : Int) / 2 * 4 + (i : Int) / 4) (by omega) (by omega), wk (e := 8 * ((k : Int) / 2 * 4 + (i : Int) / 4)) (by omega) (by omega), wk (e := (k : Int) % 2 * 4) (by omega) (by omega), wk (e := 8 * ((k : Int) / 2 * 4 + (i : Int) / 4) + (k : Int) % 2 * 4) (by omega) (by omega), wk (e := 8 * ((k : Int) / 2 * 4 + (i : Int) / 4) + (k : Int) % 2 * 4 + (i : Int) % 4) (by omega) (by omega), req_p (by omega), req_p (by simp only [List.length_singleton]; omega), wk (e := (i : Int) + 1) (by omega) (by omega)]
  exact ⟨_, rfl, by simp; omega, inB_append g2 (inB_one ha)⟩) (by intro s; unfold spec_l14Quarter_l2; rw [sel_no (by simp)]) [] ⟨rfl, inB_nil _⟩
 exact ⟨o, (bnd_e e).trans rfl, h1, h2⟩
theorem spec_LevelsOf_ev (p : List Int) (c : Cond) (hc : condOk c = true) (hl : p.length = 64) (hb : inB 255 p) : ∃ o, spec_LevelsOf p c = some (o, true) ∧ lv64 o = true := by
 have hm : maxLen = 9223372036854775807 := rfl
 have hq := condOk_qp hc
 unfold spec_LevelsOf
 rw [spec_CondOk_eq, bnd_s, hc, sel_t, l09All_yes p 64 255 (by omega) (by omega) (by omega) hb, bnd_s, Bool.not_true, bnd_s, sel_f]
 cases hE : c.Exact with
 | true =>
  obtain ⟨o, e, h1, h2⟩ := spec_Scanned_ev 8 (Or.inr rfl) p 255 (by omega) hb
  rw [sel_t, e, bnd_s]
  exact ⟨o, rfl, lv64_of (by omega) (inB_mono h2 (by omega))⟩
 | false =>
  rw [sel_f]
  cases hL : c.Large with
  | true =>
   obtain ⟨w, ew, w1⟩ := spec_Eight_ev p hl hb
   obtain ⟨l, el, l1, l2⟩ := map_loop (f := spec_LevelsOf_l4 c) 64 (fun _ => True) (fun x => -5000 ≤ x ∧ x ≤ 5000) (by
    intro i l hi hll _
    obtain ⟨d, ed, d1, d2⟩ := spec_LargeLevel_ev (l.getD i 0) c.Qp hq
    unfold spec_LevelsOf_l4
    simp only [Int.toNat_natCast]
    rw [sel_yes (by omega), req_p (by omega), req_p (by omega), ed, bnd_s, req_p (by omega), req_p (by omega), wk (e := (i : Int) + 1) (by omega) (by omega)]
    exact ⟨d, rfl, d1, d2⟩) (by intro s; unfold spec_LevelsOf_l4; rw [sel_no (by simp)]) w w1 (fun _ _ => trivial)
   obtain ⟨o, e, h1, h2⟩ := spec_Scanned_ev 8 (Or.inr rfl) l 5000 (by omega) l2
   rw [sel_t, ew, bnd_s, el, bnd_s, e, bnd_s]
   exact ⟨o, rfl, lv64_of (by omega) h2⟩
  | false =>
   obtain ⟨o, eo, o1, o2⟩ := st_loop (f := spec_LevelsOf_l26 p c) 4 (fun k s => s.length = 16 * k ∧ inB 5000 s) (by
    intro k s hk ⟨g1, g2⟩
    obtain ⟨a, ea, a1, a2⟩ := spec_l14Quarter_ev p k hk 255 hl hb
    obtain ⟨b, eb, b1, b2⟩ := spec_Four_ev a a1 a2
    obtain ⟨l, el, l1, l2⟩ := map_loop (f := spec_LevelsOf_l30 c) 16 (fun x => -9180 ≤ x ∧ x ≤ 9180) (fun x => -5000 ≤ x ∧ x ≤ 5000) (by
     intro i l hi hll hx
     obtain ⟨d, ed, d1, d2⟩ := spec_SmallLevel_ev (l.getD i 0) c.Qp i hx hq (by omega)
     unfold spec_LevelsOf_l30
     simp only [Int.toNat_natCast]
     rw [sel_yes (by omega), req_p (by omega), req_p (by omega), ed, bnd_s, req_p (by omega), req_p (by omega), wk (e := (i : Int) + 1) (by omega) (by omega)]
     exact ⟨d, rfl, d1, d2⟩) (by intro s; unfold spec_LevelsOf_l30; rw [sel_no (by simp)]) b b1 b2
    obtain ⟨r, er, r1, r2⟩ := spec_Scanned_ev 4 (Or.inl rfl) l 5000 (by omega) l2
    unfold spec_LevelsOf_l26
    simp only
    rw [sel_yes (by omega), ea, bnd_s, eb, bnd_s, el, bnd_s, er, bnd_s]
    simp only
    rw [req_p (by omega), wk (e := (k : Int) + 1) (by omega) (by omega)]
    exact ⟨_, rfl, by rw [List.length_append]; omega, inB_append g2 r2⟩) (by intro s; unfold spec_LevelsOf_l26; rw [sel_no (by simp)]) [] ⟨rfl, inB_nil _⟩
   rw [sel_f, eo, bnd_s]
   exact ⟨o, rfl, lv64_of (by omega) o2⟩
theorem spec_LevelsBack_ev (p : List Int) (c : Cond) (hc : condOk c = true) (hp : lv64 p = true) : ∃ o, spec_LevelsBack p c = some (o, true) ∧ o.length = 64 ∧ inB 10000000 o := by
 have hm : maxLen = 9223372036854775807 := rfl
 have hq := condOk_qp hc
 obtain ⟨hl, hb⟩ := lv64_in hp
 unfold spec_LevelsBack
 rw [spec_CondOk_eq, bnd_s, hc, sel_t, l09All_yes p 64 5000 (by omega) (by omega) (by omega) hb, bnd_s, Bool.not_true, bnd_s, sel_f]
 cases hE : c.Exact with
 | true =>
  obtain ⟨o, e, h1, h2⟩ := spec_Unscanned_ev 8 (Or.inr rfl) p 5000 (by omega) (by omega) hb
  rw [sel_t, e, bnd_s]
  exact ⟨o, rfl, by omega, inB_mono h2 (by omega)⟩
 | false =>
  rw [sel_f]
  cases hL : c.Large with
  | true =>
   obtain ⟨w, ew, w1, w2⟩ := spec_Unscanned_ev 8 (Or.inr rfl) p 5000 (by omega) (by omega) hb
   obtain ⟨l, el, l1, l2⟩ := map_loop (f := spec_LevelsBack_l4 c) 64 (fun x => -5000 ≤ x ∧ x ≤ 5000) (fun x => -5760000 ≤ x ∧ x ≤ 5760000) (by
    intro i l hi hll hx
    obtain ⟨d, ed, d1, d2⟩ := spec_LargeBack_ev (l.getD i 0) c.Qp hx hq
    unfold spec_LevelsBack_l4
    simp only [Int.toNat_natCast]
    rw [sel_yes (by omega), req_p (by omega), req_p (by omega), ed, bnd_s, req_p (by omega), req_p (by omega), wk (e := (i : Int) + 1) (by omega) (by omega)]
    exact ⟨d, rfl, d1, d2⟩) (by intro s; unfold spec_LevelsBack_l4; rw [sel_no (by simp)]) w (by omega) w2
   obtain ⟨o, e, h1, h2⟩ := spec_EightBack_ev l l1 l2
   rw [sel_t, ew, bnd_s, el, bnd_s, e, bnd_s]
   exact ⟨o, rfl, h1, h2⟩
  | false =>
   obtain ⟨o, eo, o1, o2⟩ := st_loop (f := spec_LevelsBack_l36 p c) 4 (fun k s => s.length = 64 ∧ inB 10000000 s) (by
    intro k s hk ⟨g1, g2⟩
    have hcut : ((p.drop (16 * k)).take 16).length = 16 := by rw [List.length_take, List.length_drop]; omega
    obtain ⟨a, ea, a1, a2⟩ := spec_Unscanned_ev 4 (Or.inl rfl) ((p.drop (16 * k)).take 16) 5000 (by omega) (by omega) (inB_take (inB_drop hb _) _)
    obtain ⟨l, el, l1, l2⟩ := map_loop (f := spec_LevelsBack_l41 c) 16 (fun x => -5000 ≤ x ∧ x ≤ 5000) (fun x => -10000000 ≤ x ∧ x ≤ 10000000) (by
     intro i l hi hll hx
     obtain ⟨d, ed, d1, d2⟩ := spec_SmallBack_ev (l.getD i 0) c.Qp i hx hq (by omega)
     unfold spec_LevelsBack_l41
     simp only [Int.toNat_natCast]
     rw [sel_yes (by omega), req_p (by omega), req_p (by omega), ed, bnd_s, req_p (by omega), req_p (by omega), wk (e := (i : Int) + 1) (by omega) (by omega)]
     exact ⟨d, rfl, d1, d2⟩) (by intro s; unfold spec_LevelsBack_l41; rw [sel_no (by simp)]) a (by omega) a2
    obtain ⟨b, eb, b1, b2⟩ := spec_FourBack_ev l l1 l2
    obtain ⟨r, er, r1, r2⟩ := st_loop (f := spec_LevelsBack_l42 ((k : Int), s) b) 16 (fun i s => s.length = 64 ∧ inB 10000000 s) (by
     intro i s hi ⟨g1, g2⟩
     have ha := inB_at b2 (i := i) (by omega)
     unfold spec_LevelsBack_l42
     simp only
     rw [sel_yes (by omega), req_p (by omega), req_p (by omega), req_p (by omega), req_p (by omega), req_p (by omega), req_p (by omega), tdiv_pos (a := (k : Int)) (by omega), tdiv_pos (a := (i : Int)) (by omega), tmod_pos (a := (k : Int)) (by omega), tmod_pos (a := (i : Int)) (by omega), wk (e := (k : Int) / 2) (by omega) (by omega), wk (e := (k : Int) / 2 * 4) (by omega) (by omega), wk (e := (i : Int) / 4) (by omega) (by omega), wk (e := (k : Int) / 2 * 4 + (i : Int) / 4) (by omega) (by omega), wk (e := 8 * ((k : Int) / 2 * 4 + (i : Int) / 4)) (by omega) (by omega), wk (e := (k : Int) % 2 * 4) (by omega) (by omega), wk (e := 8 * ((k : Int) / 2 * 4 + (i : Int) / 4) + (k : Int) % 2 * 4) (by omega) (by omega), wk (e := 8 * ((k : Int) / 2 * 4 + (i : Int) / 4) + (k : Int) % 2 * 4 + (i : Int) % 4) (by omega) (by omega), req_p (by omega), req_p (by omega), wk (e := (i : Int) + 1) (by omega) (by omega), Int.toNat_natCast]
     exact ⟨_, rfl, by rw [List.length_set]; exact g1, inB_set g2 _ ha⟩) (by intro s; unfold spec_LevelsBack_l42; rw [sel_no (by simp)]) s ⟨g1, g2⟩
    unfold spec_LevelsBack_l36
    simp only
    rw [sel_yes (by omega), wk (e := 16 * (k : Int)) (by omega) (by omega), wk (e := 16 * (k : Int) + 16) (by omega) (by omega), req_p (by omega), show (16 * (k : Int)).toNat = 16 * k by omega, show (16 * (k : Int) + 16).toNat - 16 * k = 16 by omega, ea, bnd_s, el, bnd_s, eb, bnd_s, er, bnd_s, wk (e := (k : Int) + 1) (by omega) (by omega)]
    exact ⟨_, rfl, r1, r2⟩) (by intro s; unfold spec_LevelsBack_l36; rw [sel_no (by simp)]) (List.replicate (64 : Int).toNat 0) ⟨by simp, inB_rep _ (by omega)⟩
   rw [sel_f, req_p (by omega), eo, bnd_s]
   exact ⟨o, rfl, o1, o2⟩
theorem spec_l13Dots_yes (l : List Int) (h : dots64 l = true) : spec_l13Dots l = some true := by
 obtain ⟨h1, h2⟩ := dots64_at h
 unfold spec_l13Dots
 rw [sel_neg (by simp only [bne_eq_false_iff_eq]; omega), self_loop l.length (f := spec_l13Dots_l2 l) (by
  intro i hi
  have := h2 i (by omega)
  unfold spec_l13Dots_l2
  rw [sel_yes (by omega), req_p (by omega), spec_l01In_eq, bnd_s, Int.toNat_natCast, decide_eq_true this, Bool.not_true, sel_f, wk (by omega) (by omega)]
  rfl) (by unfold spec_l13Dots_l2; rw [sel_no (by omega)]), bnd_s]
theorem dots64_of {l : List Int} (h1 : l.length = 64) (h2 : ∀ x ∈ l, 0 ≤ x ∧ x ≤ 255) : dots64 l = true := by
 unfold dots64
 rw [Bool.and_eq_true, decide_eq_true_eq, List.all_eq_true]
 exact ⟨h1, fun x hx => by unfold dotIn; rw [decide_eq_true_eq]; exact h2 x hx⟩
theorem spec_Joined_ev (g b : List Int) (hg : dots64 g = true) (hl : b.length = 64) (hb : inB 10000000 b) : ∃ o, spec_Joined g b = some o ∧ dots64 o = true := by
 have hm : maxLen = 9223372036854775807 := rfl
 obtain ⟨g1, g2⟩ := dots64_at hg
 unfold spec_Joined
 rw [spec_l13Dots_yes g hg, bnd_s, sel_t, l09All_yes b 64 10000000 (by omega) (by omega) (by omega) hb, bnd_s, Bool.not_true, bnd_s, sel_f]
 obtain ⟨o, e, h1, h2⟩ := st_loop (f := spec_Joined_l2 g b) 64 (fun i s => s.length = i ∧ ∀ x ∈ s, 0 ≤ x ∧ x ≤ 255) (by
  intro i s hi ⟨k1, k2⟩
  have ha := inB_at hb (i := i) (by omega)
  have hd := g2 i hi
  have br := brought_in (n := g.getD i 0 + b.getD i 0) (a := 0) (b := 255) (by omega)
  unfold spec_Joined_l2
  simp only [Int.toNat_natCast]
  rw [sel_yes (by omega), req_p (by omega), req_p (by omega), wk (e := g.getD i 0 + b.getD i 0) (by omega) (by omega), spec_Brought_eq, bnd_s, req_p (by simp only [List.length_singleton]; omega), wk (e := (i : Int) + 1) (by omega) (by omega)]
  refine ⟨_, rfl, by simp; omega, fun x hx => ?_⟩
  rcases List.mem_append.1 hx with hx | hx
  ·
   exact k2 x hx
  ·
   rw [List.mem_singleton.1 hx]; exact br) (by intro s; unfold spec_Joined_l2; rw [sel_no (by simp)]) [] ⟨rfl, fun x hx => by simp at hx⟩
 exact ⟨o, (bnd_e e).trans rfl, dots64_of h1 h2⟩
def edgesP (e : Edges) : Prop := (e.Above.length = 0 ∨ e.Above.length = 8) ∧ (e.Left.length = 0 ∨ e.Left.length = 8) ∧ (∀ x ∈ e.Above, 0 ≤ x ∧ x ≤ 255) ∧ (∀ x ∈ e.Left, 0 ≤ x ∧ x ≤ 255) ∧ -1 ≤ e.Corner ∧ e.Corner ≤ 255
theorem spec_l12Within_8 {p : Pic} (ok : picOk p = true) (x y : Int) : spec_l12Within p x y 8 8 = some (heldAt p x y) := by
 obtain ⟨k1, k2, k3⟩ := picOk_parts ok
 unfold spec_l12Within heldAt
 rw [spec_PicOk_eq, bnd_s, ok, sel_t, spec_l01In_eq, bnd_s, spec_l01In_eq, bnd_s, wk (e := p.Wide - 8) (by omega) (by omega), wk (e := p.High - 8) (by omega) (by omega), spec_l01In_eq, bnd_s, spec_l01In_eq, bnd_s]
 simp only [sel_and, bnd_s]
 congr 1
 rw [Bool.eq_iff_iff]
 simp only [Bool.and_eq_true, decide_eq_true_eq]
 omega
theorem spec_l13Fits_yes {p : Pic} (ok : picOk p = true) {x y : Int} (hx : x.tmod 8 = 0) (hy : y.tmod 8 = 0) (h : heldAt p x y = true) : spec_l13Fits p x y = some true := by
 unfold spec_l13Fits
 rw [req_p (by omega), hx, req_p (by omega), hy, spec_l12Within_8 ok, bnd_s, h]
 rfl
theorem spec_EdgesOf_ev {p : Pic} (ok : picOk p = true) {x y : Int} (hx : x.tmod 8 = 0) (hy : y.tmod 8 = 0) (h : heldAt p x y = true) : ∃ e, spec_EdgesOf p x y = some (e, true) ∧ edgesP e := by
 have hm : maxLen = 9223372036854775807 := rfl
 obtain ⟨k1, k2, k3⟩ := picOk_parts ok
 have h' := h
 unfold heldAt at h'
 rw [decide_eq_true_eq] at h'
 unfold spec_EdgesOf
 rw [spec_l13Fits_yes ok hx hy h, bnd_s, Bool.not_true, sel_f]
 obtain ⟨o, e, o1, o2, o3, o4, o5, o6⟩ := st_loop (f := spec_EdgesOf_l2 p x y) 8 (fun i s => (y > 0 → s.1.length = i) ∧ (¬ y > 0 → s.1.length = 0) ∧ (x > 0 → s.2.length = i) ∧ (¬ x > 0 → s.2.length = 0) ∧ (∀ z ∈ s.1, 0 ≤ z ∧ z ≤ 255) ∧ (∀ z ∈ s.2, 0 ≤ z ∧ z ≤ 255)) (by
  intro i s hi ⟨g1, g2, g3, g4, g5, g6⟩
  obtain ⟨a, b⟩ := s
  simp only at g1 g2 g3 g4 g5 g6
  have d1 := dotAt_range p (x + i) (y - 1)
  have d2 := dotAt_range p (x - 1) (y + i)
  have st1 : ∃ a', (sel (decide (y > 0)) (bnd (spec_DotAt p (wrapK .i64 (x + (i : Int))) (wrapK .i64 (y - 1))) fun q16 => req ((a.length + ([q16]).length) * 8 ≤ 140737488355328 ∧ a.length + ([q16]).length ≤ maxLen) <| some (a ++ ([q16]))) (some a)) = some a' ∧ (y > 0 → a'.length = i + 1) ∧ (¬ y > 0 → a'.length = 0) ∧ (∀ z ∈ a', 0 ≤ z ∧ z ≤ 255) := by
   by_cases c : y > 0
   ·
    rw [sel_yes c, wk (e := x + (i : Int)) (by omega) (by omega), wk (e := y - 1) (by omega) (by omega), spec_DotAt_eq ok, bnd_s, req_p (by simp only [List.length_singleton]; have := g1 c; omega)]
    refine ⟨_, rfl, fun _ => by simp; exact g1 c, fun hn => absurd c hn, fun z hz => ?_⟩
    rcases List.mem_append.1 hz with hz | hz
    ·
     exact g5 z hz
    ·
     rw [List.mem_singleton.1 hz]; exact d1
   ·
    rw [sel_no c]
    exact ⟨_, rfl, fun hn => absurd hn c, fun _ => g2 c, g5⟩
  obtain ⟨a', ea, a1, a2, a3⟩ := st1
  have st2 : ∃ b', (sel (decide (x > 0)) (bnd (spec_DotAt p (wrapK .i64 (x - 1)) (wrapK .i64 (y + (i : Int)))) fun q17 => req ((b.length + ([q17]).length) * 8 ≤ 140737488355328 ∧ b.length + ([q17]).length ≤ maxLen) <| some (a', (b ++ ([q17])))) (some (a', b))) = some (a', b') ∧ (x > 0 → b'.length = i + 1) ∧ (¬ x > 0 → b'.length = 0) ∧ (∀ z ∈ b', 0 ≤ z ∧ z ≤ 255) := by
   by_cases c : x > 0
   ·
    rw [sel_yes c, wk (e := y + (i : Int)) (by omega) (by omega), wk (e := x - 1) (by omega) (by omega), spec_DotAt_eq ok, bnd_s, req_p (by simp only [List.length_singleton]; have := g3 c; omega)]
    refine ⟨_, rfl, fun _ => by simp; exact g3 c, fun hn => absurd c hn, fun z hz => ?_⟩
    rcases List.mem_append.1 hz with hz | hz
    ·
     exact g6 z hz
    ·
     rw [List.mem_singleton.1 hz]; exact d2
   ·
    rw [sel_no c]
    exact ⟨_, rfl, fun hn => absurd hn c, fun _ => g4 c, g6⟩
  obtain ⟨b', eb, b1, b2, b3⟩ := st2
  unfold spec_EdgesOf_l2
  simp only
  rw [sel_yes (by omega), ea, bnd_s, eb, bnd_s, wk (e := (i : Int) + 1) (by omega) (by omega)]
  exact ⟨(a', b'), rfl, a1, a2, b1, b2, a3, b3⟩) (by intro s; unfold spec_EdgesOf_l2; rw [sel_no (by simp)]) ([], []) ⟨fun _ => rfl, fun _ => rfl, fun _ => rfl, fun _ => rfl, fun z hz => by simp at hz, fun z hz => by simp at hz⟩
 rw [e, bnd_s, sel_and, bnd_s]
 have d3 := dotAt_range p (x - 1) (y - 1)
 have ha : o.1.length = 0 ∨ o.1.length = 8 := by
  by_cases c : y > 0
  ·
   exact Or.inr (o1 c)
  ·
   exact Or.inl (o2 c)
 have hb : o.2.length = 0 ∨ o.2.length = 8 := by
  by_cases c : x > 0
  ·
   exact Or.inr (o3 c)
  ·
   exact Or.inl (o4 c)
 cases hc : (decide (x > 0) && decide (y > 0)) with
 | true =>
  rw [sel_t, wk (e := x - 1) (by omega) (by omega), wk (e := y - 1) (by omega) (by omega), spec_DotAt_eq ok, bnd_s, bnd_s]
  exact ⟨_, rfl, ha, hb, o5, o6, by simp only; omega, by simp only; omega⟩
 | false =>
  rw [sel_f, bnd_s]
  exact ⟨_, rfl, ha, hb, o5, o6, by simp only; omega, by simp only; omega⟩
theorem spec_l13Side_yes (l : List Int) (hl : l.length = 0 ∨ l.length = 8) (h : ∀ x ∈ l, 0 ≤ x ∧ x ≤ 255) : spec_l13Side l = some true := by
 unfold spec_l13Side
 have hc : (sel ((l.length : Int) != 0) (some ((l.length : Int) != 8)) (some false)) = some false := by
  rcases hl with e | e
  ·
   rw [e]; rfl
  ·
   rw [e]; rfl
 rw [hc, bnd_s, sel_f, self_loop l.length (f := spec_l13Side_l2 l) (by
  intro i hi
  have := h (l.getD i 0) (by rw [getD_at l i hi]; exact List.getElem_mem _)
  unfold spec_l13Side_l2
  rw [sel_yes (by omega), req_p (by omega), spec_l01In_eq, bnd_s, Int.toNat_natCast, decide_eq_true this, Bool.not_true, sel_f, wk (by omega) (by omega)]
  rfl) (by unfold spec_l13Side_l2; rw [sel_no (by omega)]), bnd_s]
theorem spec_EdgesOk_yes {e : Edges} (h : edgesP e) : spec_EdgesOk e = some true := by
 obtain ⟨h1, h2, h3, h4, h5, h6⟩ := h
 unfold spec_EdgesOk
 rw [spec_l13Side_yes _ h1 h3, bnd_s, sel_t, spec_l13Side_yes _ h2 h4, bnd_s, sel_t, spec_l01In_eq, bnd_s, decide_eq_true ⟨h5, h6⟩, bnd_s]
theorem spec_l13Filled_ev (l : List Int) (k : Nat) (hk : k < 8) (hl : l.length = 0 ∨ l.length = 8) (h : ∀ x ∈ l, 0 ≤ x ∧ x ≤ 255) : ∃ x, spec_l13Filled l k = some x ∧ 0 ≤ x ∧ x ≤ 255 := by
 unfold spec_l13Filled
 rcases hl with e | e
 ·
  rw [sel_pos (by rw [e]; rfl)]; exact ⟨_, rfl, by omega, by omega⟩
 ·
  rw [sel_neg (by rw [e]; rfl), req_p (by omega), Int.toNat_natCast]
  exact ⟨_, rfl, h _ (by rw [getD_at l k (by omega)]; exact List.getElem_mem _)⟩
theorem spec_l13Mid_ev {e : Edges} (h : edgesP e) : ∃ x, spec_l13Mid e = some x ∧ 0 ≤ x ∧ x ≤ 255 := by
 obtain ⟨h1, h2, h3, h4, _, _⟩ := h
 unfold spec_l13Mid
 rw [wk (e := (e.Above.length : Int) + (e.Left.length : Int)) (by omega) (by omega)]
 by_cases hz : (e.Above.length : Int) + (e.Left.length : Int) = 0
 ·
  rw [sel_pos (by simpa using hz)]; exact ⟨_, rfl, by omega, by omega⟩
 ·
  rw [sel_neg (by simpa using hz), req_p (by omega), tdiv_pos (by omega), wk (e := ((e.Above.length : Int) + (e.Left.length : Int)) / 2) (by omega) (by omega)]
  obtain ⟨a, ea, a1, a2⟩ := acc_loop (f := spec_l13Mid_l2 e) e.Above.length (fun i s => 0 ≤ s ∧ s ≤ ((e.Above.length : Int) + (e.Left.length : Int)) / 2 + 255 * i) (by
   intro i s hi ⟨g1, g2⟩
   have := h3 (e.Above.getD i 0) (by rw [getD_at _ i hi]; exact List.getElem_mem _)
   unfold spec_l13Mid_l2
   simp only [Int.toNat_natCast]
   rw [sel_yes (by omega), req_p (by omega), wk (e := s + e.Above.getD i 0) (by omega) (by omega), wk (e := (i : Int) + 1) (by omega) (by omega)]
   exact ⟨_, rfl, by omega, by omega⟩) (by intro s; unfold spec_l13Mid_l2; rw [sel_no (by simp)]) (((e.Above.length : Int) + (e.Left.length : Int)) / 2) ⟨by omega, by omega⟩
  obtain ⟨b, eb, b1, b2⟩ := acc_loop (f := spec_l13Mid_l4 e) e.Left.length (fun i s => 0 ≤ s ∧ s ≤ ((e.Above.length : Int) + (e.Left.length : Int)) / 2 + 255 * e.Above.length + 255 * i) (by
   intro i s hi ⟨g1, g2⟩
   have := h4 (e.Left.getD i 0) (by rw [getD_at _ i hi]; exact List.getElem_mem _)
   unfold spec_l13Mid_l4
   simp only [Int.toNat_natCast]
   rw [sel_yes (by omega), req_p (by omega), wk (e := s + e.Left.getD i 0) (by omega) (by omega), wk (e := (i : Int) + 1) (by omega) (by omega)]
   exact ⟨_, rfl, by omega, by omega⟩) (by intro s; unfold spec_l13Mid_l4; rw [sel_no (by simp)]) a ⟨by omega, by omega⟩
  rw [ea, bnd_s, eb, bnd_s, req_p hz, tdiv_pos b1]
  have hn : (e.Above.length : Int) + (e.Left.length : Int) = 8 ∨ (e.Above.length : Int) + (e.Left.length : Int) = 16 := by omega
  have hr : 0 ≤ b / ((e.Above.length : Int) + (e.Left.length : Int)) ∧ b / ((e.Above.length : Int) + (e.Left.length : Int)) ≤ 255 := by
   rcases hn with hn | hn <;> rw [hn] <;> omega
  rw [wk (by omega) (by omega)]
  exact ⟨_, rfl, hr⟩
theorem spec_GuessOf_ev (m : Int) (hm0 : 0 ≤ m ∧ m ≤ 3) {e : Edges} (h : edgesP e) : ∃ g, spec_GuessOf m e = some g ∧ dots64 g = true := by
 have hm : maxLen = 9223372036854775807 := rfl
 have h' := h
 obtain ⟨h1, h2, h3, h4, h5, h6⟩ := h'
 obtain ⟨mid, em, m1, m2⟩ := spec_l13Mid_ev h
 unfold spec_GuessOf
 rw [spec_EdgesOk_yes h, bnd_s, sel_t, spec_l01In_eq, bnd_s, decide_eq_true hm0, Bool.not_true, bnd_s, sel_f]
 have hc : ∃ v, sel (decide (e.Corner < 0)) (some (128 : Int)) (some e.Corner) = some v ∧ 0 ≤ v ∧ v ≤ 255 := by
  by_cases c : e.Corner < 0
  ·
   rw [sel_yes c]; exact ⟨_, rfl, by omega, by omega⟩
  ·
   rw [sel_no c]; exact ⟨_, rfl, by omega, by omega⟩
 obtain ⟨v, ev, v1, v2⟩ := hc
 rw [ev, bnd_s]
 obtain ⟨o, eo, o1, o2⟩ := st_loop (f := spec_GuessOf_l2 m e v) 64 (fun i s => s.length = i ∧ ∀ x ∈ s, 0 ≤ x ∧ x ≤ 255) (by
  intro i s hi ⟨g1, g2⟩
  obtain ⟨a, ea, a1, a2⟩ := spec_l13Filled_ev e.Above (i % 8) (by omega) h1 h3
  obtain ⟨b, eb, b1, b2⟩ := spec_l13Filled_ev e.Left (i / 8) (by omega) h2 h4
  have br := brought_in (n := b + a - v) (a := 0) (b := 255) (by omega)
  have put : ∀ z : Int, 0 ≤ z ∧ z ≤ 255 → (s ++ [z]).length = i + 1 ∧ ∀ x ∈ s ++ [z], 0 ≤ x ∧ x ≤ 255 := by
   intro z hz
   refine ⟨by simp; omega, fun x hx => ?_⟩
   rcases List.mem_append.1 hx with hx | hx
   ·
    exact g2 x hx
   ·
    rw [List.mem_singleton.1 hx]; exact hz
  unfold spec_GuessOf_l2
  simp only
  rw [sel_yes (by omega), req_p (by omega), tmod_pos (by omega), show (i : Int) % 8 = ((i % 8 : Nat) : Int) by omega, ea, bnd_s, req_p (by omega), tdiv_pos (by omega), wk (e := (i : Int) / 8) (by omega) (by omega), show (i : Int) / 8 = ((i / 8 : Nat) : Int) by omega, eb, bnd_s, wk (e := (i : Int) + 1) (by omega) (by omega), em]
  cases (m == 0) with
  | true =>
   rw [sel_t, bnd_s, req_p (by simp only [List.length_singleton]; omega), bnd_s]
   exact ⟨_, rfl, put _ ⟨m1, m2⟩⟩
  | false =>
   rw [sel_f]
   cases (m == 1) with
   | true =>
    rw [sel_t, req_p (by simp only [List.length_singleton]; omega), bnd_s]
    exact ⟨_, rfl, put _ ⟨a1, a2⟩⟩
   | false =>
    rw [sel_f]
    cases (m == 2) with
    | true =>
     rw [sel_t, req_p (by simp only [List.length_singleton]; omega), bnd_s]
     exact ⟨_, rfl, put _ ⟨b1, b2⟩⟩
    | false =>
     rw [sel_f, wk (e := b + a) (by omega) (by omega), wk (e := b + a - v) (by omega) (by omega), spec_Brought_eq, bnd_s, req_p (by simp only [List.length_singleton]; omega), bnd_s]
     exact ⟨_, rfl, put _ br⟩) (by intro s; unfold spec_GuessOf_l2; rw [sel_no (by simp)]) [] ⟨rfl, fun x hx => by simp at hx⟩
 exact ⟨o, (bnd_e eo).trans rfl, dots64_of o1 o2⟩
theorem inB_dots {l : List Int} (h : dots64 l = true) : l.length = 64 ∧ inB 1000 l := by
 simp only [dots64, Bool.and_eq_true, decide_eq_true_eq] at h
 refine ⟨h.1, fun x hx => ?_⟩
 have := List.all_eq_true.1 h.2 x hx
 simp only [dotIn, decide_eq_true_eq] at this
 omega
theorem spec_GapOf_eq {a b : List Int} (ha : dots64 a = true) (hb : dots64 b = true) : spec_GapOf a b = some (gapTo a b 64) := by
 have la := inB_dots ha
 have lb := inB_dots hb
 unfold spec_GapOf
 rw [l09All_yes a 64 1000 (by omega) (by omega) (by omega) la.2, bnd_s, sel_t, l09All_yes b 64 1000 (by omega) (by omega) (by omega) lb.2, bnd_s, Bool.not_true, bnd_s, sel_f]
 have key : ∀ i : Nat, i ≤ 64 → loop (spec_GapOf_l2 a b) (gapTo a b i, (i : Int)) = some (gapTo a b 64) := by
  refine down_to _ ?_ ?_
  ·
   exact ldone (by unfold spec_GapOf_l2; rw [sel_no (by simp)])
  ·
   intro i hi ih
   refine lgo (y := (gapTo a b (i + 1), ((i + 1 : Nat) : Int))) ?_ ih
   have p := (dots64_at ha).2 i hi
   have q := (dots64_at hb).2 i hi
   have g := gapTo_bounds ha hb i (by omega)
   have ab : 0 ≤ absI (a.getD i 0 - b.getD i 0) ∧ absI (a.getD i 0 - b.getD i 0) ≤ 255 := by unfold absI; split <;> omega
   unfold spec_GapOf_l2
   simp only [Int.toNat_natCast]
   rw [sel_yes (by omega), req_p (by omega), req_p (by omega), wk (e := a.getD i 0 - b.getD i 0) (by omega) (by omega), spec_l08Sized_eq _ (by omega), bnd_s, wk (e := gapTo a b i + absI (a.getD i 0 - b.getD i 0)) (by omega) (by omega), wk (e := (i : Int) + 1) (by omega) (by omega)]
   rfl
 exact (bnd_e (key 0 (by omega))).trans rfl
theorem spec_UeSize_ev (m : Int) (h : 0 ≤ m ∧ m ≤ 3) : ∃ s, spec_UeSize m = some s ∧ 0 ≤ s ∧ s ≤ 39 := by
 have := ueL_len m.toNat (by omega)
 unfold spec_UeSize spec_UeRow
 rw [spec_l01In_eq, bnd_s, decide_eq_true (by omega), Bool.not_true, sel_f, show m = ((m.toNat : Nat) : Int) by omega, spec_l03Ue_eq _ (by omega), bnd_s, bnd_s]
 refine ⟨_, rfl, ?_⟩
 rw [strOfNums_size]; omega
theorem spec_BestGuess_ev {w : List Int} (hw : dots64 w = true) {e : Edges} (h : edgesP e) : ∃ m c, spec_BestGuess w e = some (m, c) ∧ 0 ≤ m ∧ m ≤ 3 := by
 unfold spec_BestGuess
 rw [spec_EdgesOk_yes h, bnd_s, sel_t, spec_l13Dots_yes w hw, bnd_s, Bool.not_true, bnd_s, sel_f]
 obtain ⟨o, eo, o1, o2⟩ := loop_inv (f := spec_BestGuess_l2 w e) (fun v => (0 ≤ v.1 ∧ v.1 ≤ 3) ∧ 0 ≤ v.2.2 ∧ v.2.2 ≤ 4) (fun v => (4 - v.2.2).toNat) (fun _ o => 0 ≤ o.1 ∧ o.1 ≤ 3) (by
  intro ⟨m, c, i⟩ ⟨g1, g2, g3⟩
  simp only at g1 g2 g3
  unfold spec_BestGuess_l2
  simp only
  by_cases hi : i < 4
  ·
   obtain ⟨g, eg, hg⟩ := spec_GuessOf_ev i ⟨g2, by omega⟩ h
   obtain ⟨s, es, s1, s2⟩ := spec_UeSize_ev i ⟨g2, by omega⟩
   rw [sel_yes hi, eg, bnd_s, spec_GapOf_eq hw hg, bnd_s, es, bnd_s, sel_or, bnd_s, wk (e := i + 1) (by omega) (by omega)]
   cases (decide (c < 0) || decide (wrapK IntKind.i64 (gapTo w g 64 + s) < c)) with
   | true => exact .inr ⟨_, rfl, ⟨by simp only; omega, by simp only; omega, by simp only; omega⟩, by simp only; omega, fun _ h => h⟩
   | false => exact .inr ⟨_, rfl, ⟨by simp only; omega, by simp only; omega, by simp only; omega⟩, by simp only; omega, fun _ h => h⟩
  ·
   rw [sel_no hi]
   exact .inl ⟨_, rfl, g1⟩) (0, -1, 0) ⟨by simp, by simp, by simp⟩
 exact ⟨o.1, o.2, (bnd_e eo).trans rfl, o1, o2⟩
theorem spec_SeSize_ev (d : Int) (h : -500000 ≤ d ∧ d ≤ 500000) : spec_SeSize d = some (seSz d) := by
 unfold spec_SeSize spec_SeRow seSz
 rw [spec_l01In_eq, bnd_s, decide_eq_true h, Bool.not_true, sel_f, spec_l03Se_eq d h, bnd_s, bnd_s, strOfNums_size]
theorem sqOk_guess {m : Int} {l : List Int} (hm : 0 ≤ m ∧ m ≤ 3) (hl : lv64 l = true) : sqOk ⟨2, m, 0, 0, l⟩ = true := by
 unfold sqOk
 simp only
 rw [if_neg (by omega), if_neg (by omega), if_pos trivial, hl, decide_eq_true hm]
 rfl
theorem sqOk_move {dx dy : Int} {l : List Int} (hx : -16 ≤ dx ∧ dx ≤ 16) (hy : -16 ≤ dy ∧ dy ≤ 16) (hl : lv64 l = true) : sqOk ⟨1, 0, dx, dy, l⟩ = true := by
 unfold sqOk
 simp only
 rw [if_neg (by omega), if_pos trivial, hl, decide_eq_true hx, decide_eq_true hy]
 rfl
def likeB (p q : Pic) : Bool := picOk p && (picOk q && ((p.Wide == q.Wide) && (p.High == q.High)))
theorem spec_l17Like_eq (p q : Pic) : spec_l17Like p q = some (likeB p q) := by
 unfold spec_l17Like likeB
 rw [spec_PicOk_eq, bnd_s, spec_PicOk_eq, bnd_s]
 simp only [sel_and, bnd_s]
theorem likeB_parts {p q : Pic} (h : likeB p q = true) : picOk q = true ∧ q.Wide = p.Wide ∧ q.High = p.High := by
 unfold likeB at h
 simp only [Bool.and_eq_true, beq_iff_eq] at h
 exact ⟨h.2.1, h.2.2.1.symm, h.2.2.2.symm⟩
theorem likeB_of {p q : Pic} (h1 : picOk p = true) (h2 : picOk q = true) (h3 : q.Wide = p.Wide) (h4 : q.High = p.High) : likeB p q = true := by
 unfold likeB
 simp only [Bool.and_eq_true, beq_iff_eq]
 exact ⟨h1, h2, h3.symm, h4.symm⟩
theorem it_congr {V O : Type} {f g : V → Option (Lp V O)} (I : V → Prop) (h : ∀ v, I v → f v = g v) (hI : ∀ v v', I v → g v = some (.go v') → I v') : ∀ (k : Nat) (v : V), I v → it f k v = it g k v
 | 0, _, _ => rfl
 | k + 1, v, hv => by
  rw [it, it, h v hv]
  cases e : g v with
  | none => rfl
  | some s =>
   cases s with
   | go y => exact it_congr I h hI k y (hI v y hv e)
   | done o => rfl
theorem loop_congr {V O : Type} {f g : V → Option (Lp V O)} (I : V → Prop) (h : ∀ v, I v → f v = g v) (hI : ∀ v v', I v → g v = some (.go v') → I v') {v : V} (hv : I v) : loop f v = loop g v := by
 apply Option.ext
 intro o
 rw [loop_it, loop_it]
 exact ⟨fun ⟨k, hk⟩ => ⟨k, by rw [← it_congr I h hI k v hv]; exact hk⟩, fun ⟨k, hk⟩ => ⟨k, by rw [it_congr I h hI k v hv]; exact hk⟩⟩
theorem loop_of {V O : Type} {f : V → Option (Lp V O)} {v : V} {o : O} (k : Nat) (h : it f k v = some o) : loop f v = some o := loop_it.2 ⟨k, h⟩
theorem list_eq {a b : List Int} {n : Nat} (ha : a.length = n) (hb : b.length = n) (h : ∀ i : Nat, i < n → a.getD i 0 = b.getD i 0) : a = b := by
 apply List.ext_getElem (by omega)
 intro i h1 h2
 have := h i (by omega)
 rwa [getD_at a i h1, getD_at b i h2] at this
theorem getD_map {n : Nat} (g : Nat → Int) {i : Nat} (h : i < n) : ((List.range n).map g).getD i 0 = g i := by
 rw [getD_at _ i (by simpa using h)]; simp
theorem app_loop {α : Type} {f : Int × List α → Option (Lp (Int × List α) (List α))} (n : Nat) (g : Nat → α) (a : List α) (hs : ∀ i : Nat, i < n → f ((i : Int), a ++ (List.range i).map g) = some (.go (((i + 1 : Nat) : Int), a ++ (List.range i).map g ++ [g i]))) (he : f ((n : Int), a ++ (List.range n).map g) = some (.done (a ++ (List.range n).map g))) : loop f (0, a) = some (a ++ (List.range n).map g) := by
 have key : ∀ i : Nat, i ≤ n → loop f ((i : Int), a ++ (List.range i).map g) = some (a ++ (List.range n).map g) := by
  refine down_to _ (ldone he) ?_
  intro i hi ih
  refine lgo (hs i hi) ?_
  rw [List.append_assoc, show (List.range i).map g ++ [g i] = (List.range (i + 1)).map g by simp [List.range_succ]]
  exact ih
 have := key 0 (by omega)
 simpa using this
theorem st_loop2 {S : Type} {f : Int × S → Option (Lp (Int × S) S)} (n : Nat) (I : Nat → S → Prop) (hs : ∀ (i : Nat) (l : S), i < n → I i l → ∃ l', f ((i : Int), l) = some (.go (((i + 1 : Nat) : Int), l')) ∧ I (i + 1) l') (he : ∀ l, I n l → f ((n : Int), l) = some (.done l)) (l0 : S) (h0 : I 0 l0) : ∃ o, loop f (0, l0) = some o ∧ I n o := by
 have key : ∀ i : Nat, i ≤ n → ∀ l, I i l → ∃ o, loop f ((i : Int), l) = some o ∧ I n o := by
  refine down_to _ ?_ ?_
  ·
   intro l h; exact ⟨l, ldone (he l h), h⟩
  ·
   intro i hi ih l h
   obtain ⟨l', e, h'⟩ := hs i l hi h
   obtain ⟨o, e2, h2⟩ := ih l' h'
   exact ⟨o, lgo e e2, h2⟩
 exact key 0 (by omega) l0 h0
theorem floor_alike : impl_floor = spec_l09Down := rfl
theorem spec_StepOf_eq (qp : Int) (h0 : 0 ≤ qp ∧ qp ≤ 40) : spec_StepOf qp = some (stepPlace qp) := by
 have h := step_ok ⟨qp.toNat, by omega⟩
 simp only at h
 rw [show ((qp.toNat : Nat) : Int) = qp by omega] at h
 unfold spec_StepOf
 rw [spec_l01In_eq, bnd_s, decide_eq_true (by omega), Bool.not_true, sel_f, req_p (by omega)]
 have hb : (sel ((qp.tmod 6) == 0) (some (10 : Int)) (sel ((qp.tmod 6) == 1) (some 11) (sel ((qp.tmod 6) == 2) (some 13) (sel ((qp.tmod 6) == 3) (some 14) (sel ((qp.tmod 6) == 4) (some 16) (some 18)))))) = some (stepBase qp) := by
  unfold stepBase
  simp only [sel_ite, beq_iff_eq]
  repeat' split
  all_goals rfl
 rw [hb, bnd_s]
 unfold stepPlace at h ⊢
 cases e : it (spec_StepOf_l2 qp) 10 (stepBase qp, 0) with
 | none => rw [e] at h; simp only at h; omega
 | some q => rw [loop_it.2 ⟨10, e⟩, bnd_s]
theorem impl_step_all : ∀ q : Fin 41, impl_StepOf (q.val : Int) = some (stepPlace (q.val : Int)) := by decide +kernel
theorem impl_StepOf_eq (qp : Int) (h0 : 0 ≤ qp ∧ qp ≤ 40) : impl_StepOf qp = some (stepPlace qp) := by
 have := impl_step_all ⟨qp.toNat, by omega⟩
 simp only at this
 rwa [show ((qp.toNat : Nat) : Int) = qp by omega] at this
theorem StepOf_alike (qp : Int) (h0 : 0 ≤ qp ∧ qp ≤ 40) : impl_StepOf qp = spec_StepOf qp := by rw [impl_StepOf_eq qp h0, spec_StepOf_eq qp h0]
theorem spec_SignOf_eq (u v : Nat) (hu : u < 8) (hv : v < 8) : spec_SignOf u v = some (signPlace u v) := by
 have h := sign_ok ⟨u, hu⟩ ⟨v, hv⟩
 simp only at h
 unfold spec_SignOf
 rw [spec_l01In_eq, bnd_s, decide_eq_true (by omega), sel_t, spec_l01In_eq, bnd_s, decide_eq_true (by omega), Bool.not_true, bnd_s, sel_f]
 unfold signPlace at h ⊢
 cases e : it spec_SignOf_l2 10 (1, (IntKind.wrap .i64 (BitVec.ofInt (IntKind.bits .i64) (u : Int) &&& BitVec.ofInt (IntKind.bits .i64) (v : Int)).toNat)) with
 | none => rw [e] at h; simp only at h; omega
 | some q => rw [loop_it.2 ⟨10, e⟩, bnd_s]
theorem impl_sign_all : ∀ u v : Fin 8, impl_SignOf (u.val : Int) (v.val : Int) = some (signPlace (u.val : Int) (v.val : Int)) := by decide +kernel
theorem SignOf_alike (u v : Nat) (hu : u < 8) (hv : v < 8) : impl_SignOf u v = some (signPlace u v) := impl_sign_all ⟨u, hu⟩ ⟨v, hv⟩
def scaleIt (qp p : Int) : Option Int :=
 bnd (spec_KindOf p) fun q1 => bnd (spec_l08Pick q1 10 16 13) fun a1 => bnd (spec_l08Pick q1 11 18 14) fun a2 => bnd (spec_l08Pick q1 13 20 16) fun a3 => bnd (spec_l08Pick q1 14 23 18) fun a4 => bnd (spec_l08Pick q1 16 25 20) fun a5 => bnd (spec_l08Pick q1 18 29 23) fun a6 =>
 it (spec_ScaleOf_l2 qp) 10 ((sel (qp.tmod 6 == 0) a1 (sel (qp.tmod 6 == 1) a2 (sel (qp.tmod 6 == 2) a3 (sel (qp.tmod 6 == 3) a4 (sel (qp.tmod 6 == 4) a5 (sel (qp.tmod 6 == 5) a6 0)))))), 0)
theorem scale_all : ∀ q : Fin 41, ∀ p : Fin 16, (scaleIt (q.val : Int) (p.val : Int)).isSome = true ∧ impl_ScaleOf (q.val : Int) (p.val : Int) = scaleIt (q.val : Int) (p.val : Int) := by decide +kernel
theorem ScaleOf_alike (qp p : Int) (h0 : 0 ≤ qp ∧ qp ≤ 40) (hp : 0 ≤ p ∧ p ≤ 15) : impl_ScaleOf qp p = spec_ScaleOf qp p := by
 have := scale_all ⟨qp.toNat, by omega⟩ ⟨p.toNat, by omega⟩
 simp only at this
 rw [show ((qp.toNat : Nat) : Int) = qp by omega, show ((p.toNat : Nat) : Int) = p by omega] at this
 obtain ⟨h1, h2⟩ := this
 rw [h2]
 cases e : scaleIt qp p with
 | none => rw [e] at h1; cases h1
 | some o =>
  unfold scaleIt at e
  unfold spec_ScaleOf
  obtain ⟨k, ek, k0, k1⟩ := spec_KindOf_ev p hp
  rw [ek, bnd_s] at e ⊢
  rw [spec_l01In_eq, bnd_s, decide_eq_true h0, sel_t, decide_eq_false (by omega), bnd_s, sel_f, req_p (by omega)]
  obtain ⟨a1, e1, b1⟩ := spec_l08Pick_ev k 10 16 13
  obtain ⟨a2, e2, b2⟩ := spec_l08Pick_ev k 11 18 14
  obtain ⟨a3, e3, b3⟩ := spec_l08Pick_ev k 13 20 16
  obtain ⟨a4, e4, b4⟩ := spec_l08Pick_ev k 14 23 18
  obtain ⟨a5, e5, b5⟩ := spec_l08Pick_ev k 16 25 20
  obtain ⟨a6, e6, b6⟩ := spec_l08Pick_ev k 18 29 23
  rw [e1, e2, e3, e4, e5, e6] at e ⊢
  simp only [bnd_s, sel_ss] at e ⊢
  rw [loop_of 10 e, bnd_s]
def scanOrdIn (n : Int) (v16 : Int × List Int) : Option (Lp (Int × List Int) (List Int)) :=
 sel (decide (v16.1 ≤ (wrapK .i64 ((wrapK .i64 (2 * n)) - 2)))) (
 bnd (it (impl_scanOrder_l14 n v16) 20 (0, v16.2)) fun v42 =>
 some (.go (wrapK .i64 (v16.1 + 1), v42))) (
 some (.done v16.2))
theorem scanOrdIn_is {n : Int} {v : Int × List Int} {x : Lp (Int × List Int) (List Int)} (h : scanOrdIn n v = some x) : impl_scanOrder_l12 n v = some x := by
 unfold scanOrdIn at h
 unfold impl_scanOrder_l12
 rcases sel_some h with ⟨hb, h⟩ | ⟨hb, h⟩
 ·
  rw [hb, sel_t]
  obtain ⟨a, h1, h2⟩ := bnd_some h
  rw [loop_it.2 ⟨20, h1⟩, bnd_s]
  exact h2
 ·
  rw [hb, sel_f]; exact h
def scanL (n : Int) : List Int := (it (scanOrdIn n) 20 (0, [])).getD []
theorem scanL_4 : (it (scanOrdIn 4) 20 (0, [])).isSome = true ∧ (scanL 4).length = 16 := by decide +kernel
theorem scanL_8 : (it (scanOrdIn 8) 20 (0, [])).isSome = true ∧ (scanL 8).length = 64 := by decide +kernel
theorem scanL_at4 : ∀ i : Fin 16, (scanL 4).getD i.val 0 = scanPlace 4 (i.val : Int) := by decide +kernel
theorem scanL_at8 : ∀ i : Fin 64, (scanL 8).getD i.val 0 = scanPlace 8 (i.val : Int) := by decide +kernel
theorem impl_scanOrder_eq (n : Int) (hn : n = 4 ∨ n = 8) : impl_scanOrder n = some (scanL n) ∧ ((scanL n).length : Int) = n * n ∧ ∀ i : Nat, (i : Int) < n * n → (scanL n).getD i 0 = scanPlace n i := by
 have h : (it (scanOrdIn n) 20 (0, [])).isSome = true ∧ ((scanL n).length : Int) = n * n := by
  rcases hn with rfl | rfl
  ·
   have := scanL_4; exact ⟨this.1, by omega⟩
  ·
   have := scanL_8; exact ⟨this.1, by omega⟩
 refine ⟨?_, h.2, fun i hi => ?_⟩
 ·
  obtain ⟨o, ho⟩ := Option.isSome_iff_exists.1 h.1
  have hl := loop_of 20 (it_of (fun v y => scanOrdIn_is (n := n)) 20 _ ho)
  unfold impl_scanOrder
  rw [hl, bnd_s]
  unfold scanL; rw [ho]; rfl
 ·
  rcases hn with rfl | rfl
  ·
   exact scanL_at4 ⟨i, by omega⟩
  ·
   exact scanL_at8 ⟨i, by omega⟩
theorem Unscanned_alike (n : Int) (hn : n = 4 ∨ n = 8) (l : List Int) (hl : (l.length : Int) = n * n) : impl_Unscanned n l = spec_Unscanned n l := by
 obtain ⟨e, h1, h2⟩ := impl_scanOrder_eq n hn
 have hw : wrapK .i64 (n * n) = n * n := by rcases hn with rfl | rfl <;> exact wk (by omega) (by omega)
 have hn2 : n * n ≤ 64 := by rcases hn with rfl | rfl <;> omega
 unfold impl_Unscanned spec_Unscanned
 rw [e]
 have : loop (impl_Unscanned_l2 l (scanL n)) (0, List.replicate (l.length : Int).toNat 0) = loop (spec_Unscanned_l2 n l) (0, List.replicate (l.length : Int).toNat 0) := by
  refine loop_congr (fun v => (∃ i : Nat, v.1 = (i : Int) ∧ i ≤ l.length) ∧ v.2.length = l.length) ?_ ?_ ⟨⟨0, rfl, by omega⟩, by simp⟩
  ·
   intro ⟨i, s⟩ ⟨⟨k, ek, hk⟩, hs⟩
   simp only at hs ek
   subst ek
   unfold impl_Unscanned_l2 spec_Unscanned_l2
   simp only [Int.toNat_natCast]
   rw [hw]
   by_cases hi : (k : Int) < n * n
   ·
    have hp := scanPlace_in n hn k hi
    have h3 := h2 k hi
    simp only [h3]
    rw [sel_yes (by omega), sel_yes hi, spec_ScanAt_ev n hn k hi, bnd_s, req_p (by omega), req_p (by omega)]
   ·
    rw [sel_no (by omega), sel_no hi]
  ·
   intro ⟨i, s⟩ v' ⟨⟨k, ek, hk⟩, hs⟩ he
   simp only at hs ek
   subst ek
   unfold spec_Unscanned_l2 at he
   simp only [Int.toNat_natCast] at he
   rw [hw] at he
   by_cases hi : (k : Int) < n * n
   ·
    have hp := scanPlace_in n hn k hi
    rw [sel_yes hi, spec_ScanAt_ev n hn k hi, bnd_s, req_p (by omega), req_p (by omega), req_p (by omega), wk (by omega) (by omega)] at he
    cases he
    exact ⟨⟨k + 1, rfl, by omega⟩, by rw [List.length_set]; exact hs⟩
   ·
    rw [sel_no hi] at he; cases he
 simp only [bnd_s, this]
theorem Scanned_alike (n : Int) (hn : n = 4 ∨ n = 8) (l : List Int) (hl : (l.length : Int) = n * n) : impl_Scanned n l = spec_Scanned n l := by
 have hm : maxLen = 9223372036854775807 := rfl
 obtain ⟨e, h1, h2⟩ := impl_scanOrder_eq n hn
 have hw : wrapK .i64 (n * n) = n * n := by rcases hn with rfl | rfl <;> exact wk (by omega) (by omega)
 have hn2 : n * n ≤ 64 := by rcases hn with rfl | rfl <;> omega
 unfold impl_Scanned spec_Scanned
 rw [e]
 have : loop (impl_Scanned_l2 l (scanL n)) (0, ([] : List Int)) = loop (spec_Scanned_l2 n l) (0, ([] : List Int)) := by
  refine loop_congr (fun v => ∃ i : Nat, v.1 = (i : Int) ∧ i ≤ l.length) ?_ ?_ ⟨0, rfl, by omega⟩
  ·
   intro ⟨i, s⟩ ⟨k, ek, hk⟩
   simp only at ek
   subst ek
   unfold impl_Scanned_l2 spec_Scanned_l2
   simp only [Int.toNat_natCast]
   rw [hw]
   by_cases hi : (k : Int) < n * n
   ·
    have hp := scanPlace_in n hn k hi
    have h3 := h2 k hi
    simp only [h3]
    rw [sel_yes (by omega), sel_yes hi, spec_ScanAt_ev n hn k hi, bnd_s, req_p (by omega), req_p (by omega)]
   ·
    rw [sel_no (by omega), sel_no hi]
  ·
   intro ⟨i, s⟩ v' ⟨k, ek, hk⟩ he
   simp only at ek
   subst ek
   unfold spec_Scanned_l2 at he
   simp only [Int.toNat_natCast] at he
   rw [hw] at he
   by_cases hi : (k : Int) < n * n
   ·
    have hp := scanPlace_in n hn k hi
    rw [sel_yes hi, spec_ScanAt_ev n hn k hi, bnd_s, req_p (by omega)] at he
    obtain ⟨_, he⟩ := req_some he
    rw [wk (by omega) (by omega)] at he
    cases he
    exact ⟨k + 1, rfl, by omega⟩
   ·
    rw [sel_no hi] at he; cases he
 simp only [bnd_s, this]
def acc8 (t : Nat → Int) : Nat → Int
 | 0 => 0
 | k + 1 => wrapK .i64 (acc8 t k + t k)
def rowT (p : List Int) (i v k : Nat) : Int := wrapK .i64 (signPlace v k * p.getD (8 * i + k) 0)
def colT (p : List Int) (u v k : Nat) : Int := wrapK .i64 (signPlace u k * p.getD (8 * k + v) 0)
def half8 (p : List Int) : List Int := (List.range 64).map fun j => acc8 (rowT p (j / 8) (j % 8)) 8
def sums8 (p : List Int) : List Int := (List.range 64).map fun j => acc8 (colT (half8 p) (j / 8) (j % 8)) 8
theorem half8_len (p : List Int) : (half8 p).length = 64 := by simp [half8]
theorem sums8_len (p : List Int) : (sums8 p).length = 64 := by simp [sums8]
theorem sum_loops {f1 : Int × List Int → Option (Lp (Int × List Int) (List Int))} {f2 : Int × List Int → Int × List Int → Option (Lp (Int × List Int) (List Int))} {f3 : Int × List Int → Int × List Int → Int × List Int → Option (Lp (Int × List Int) (List Int))} (t : Nat → Nat → Nat → Int)
  (h1 : ∀ v, f1 v = sel (decide (v.1 < 8)) (bnd (loop (f2 v) (0, v.2)) fun w => some (.go (wrapK .i64 (v.1 + 1), w))) (some (.done v.2)))
  (h2 : ∀ v w, f2 v w = sel (decide (w.1 < 8)) (bnd (loop (f3 v w) (0, w.2)) fun x => some (.go (wrapK .i64 (w.1 + 1), x))) (some (.done w.2)))
  (h3 : ∀ (i v k : Nat) (a b s : List Int), i < 8 → v < 8 → k < 8 → s.length = 64 → f3 ((i : Int), a) ((v : Int), b) ((k : Int), s) = some (.go (((k + 1 : Nat) : Int), s.set (8 * i + v) (wrapK .i64 (s.getD (8 * i + v) 0 + t i v k)))))
  (h4 : ∀ (i v : Nat) (a b s : List Int), f3 ((i : Int), a) ((v : Int), b) (8, s) = some (.done s)) : loop f1 (0, List.replicate 64 0) = some ((List.range 64).map fun j => acc8 (t (j / 8) (j % 8)) 8) := by
 obtain ⟨o, e, o1, o2, _⟩ := st_loop2 (f := f1) 8 (fun i s => s.length = 64 ∧ (∀ j, j < 8 * i → s.getD j 0 = acc8 (t (j / 8) (j % 8)) 8) ∧ ∀ j, 8 * i ≤ j → s.getD j 0 = 0) (by
  intro i s hi ⟨g1, g2, g3⟩
  obtain ⟨r, er, r1, r2, r3⟩ := st_loop2 (f := f2 ((i : Int), s)) 8 (fun v s => s.length = 64 ∧ (∀ j, j < 8 * i + v → s.getD j 0 = acc8 (t (j / 8) (j % 8)) 8) ∧ ∀ j, 8 * i + v ≤ j → s.getD j 0 = 0) (by
   intro v s' hv ⟨k1, k2, k3⟩
   obtain ⟨q, eq, q1, q2, q3⟩ := st_loop2 (f := f3 ((i : Int), s) ((v : Int), s')) 8 (fun k s => s.length = 64 ∧ (∀ j, j ≠ 8 * i + v → s.getD j 0 = s'.getD j 0) ∧ s.getD (8 * i + v) 0 = acc8 (t i v) k) (by
    intro k s'' hk ⟨m1, m2, m3⟩
    refine ⟨_, h3 i v k s s' s'' hi hv hk m1, by rw [List.length_set]; exact m1, fun j hj => ?_, ?_⟩
    ·
     rw [getD_set_at _ _ _ _ (by omega), if_neg (fun h => hj h.symm)]; exact m2 j hj
    ·
     rw [getD_set_at _ _ _ _ (by omega), if_pos rfl, m3]; rfl) (fun z _ => h4 i v s s' z) s' ⟨k1, fun _ _ => rfl, by rw [k3 _ (Nat.le_refl _)]; rfl⟩
   refine ⟨q, by rw [h2, sel_yes (by simp only; omega), eq, bnd_s, wk (by simp only; omega) (by simp only; omega)]; rfl, q1, fun j hj => ?_, fun j hj => ?_⟩
   ·
    by_cases h : j = 8 * i + v
    ·
     rw [h, q3, show (8 * i + v) / 8 = i by omega, show (8 * i + v) % 8 = v by omega]
    ·
     rw [q2 j h]; exact k2 j (by omega)
   ·
    rw [q2 j (by omega)]; exact k3 j (by omega)) (fun z _ => by rw [h2, sel_no (by simp)]) s ⟨g1, g2, g3⟩
  refine ⟨r, by rw [h1, sel_yes (by simp only; omega), er, bnd_s, wk (by simp only; omega) (by simp only; omega)]; rfl, r1, fun j hj => r2 j (by omega), fun j hj => r3 j (by omega)⟩) (fun z _ => by rw [h1, sel_no (by simp)]) (List.replicate 64 0) ⟨by simp, fun j hj => by omega, fun j _ => by
   by_cases h : j < 64
   ·
    rw [getD_at _ _ (by rw [List.length_replicate]; exact h)]; exact List.getElem_replicate ..
   ·
    rw [List.getD_eq_getElem?_getD, List.getElem?_eq_none (by rw [List.length_replicate]; omega)]; rfl⟩
 rw [e]
 congr 1
 exact list_eq o1 (by simp) fun j hj => by rw [o2 j (by omega), getD_map (fun j => acc8 (t (j / 8) (j % 8)) 8) hj]
theorem impl_sums_eq (p : List Int) (hp : p.length = 64) : impl_sums p = some (sums8 p) := by
 unfold impl_sums
 rw [req_p (by omega)]
 have e1 : loop (impl_sums_l72 p) (0, List.replicate (64 : Int).toNat 0) = some (half8 p) :=
  sum_loops (f2 := impl_sums_l84 p) (f3 := impl_sums_l86 p) (fun i v k => rowT p i v k) (fun _ => rfl) (fun _ _ => rfl) (fun i v k a b s hi hv hk hs => by
   unfold impl_sums_l86
   simp only
   rw [sel_yes (by omega), wk (e := 8 * (i : Int)) (by omega) (by omega), wk (e := 8 * (i : Int) + (v : Int)) (by omega) (by omega), wk (e := 8 * (i : Int) + (k : Int)) (by omega) (by omega), req_p (by omega), req_p (by omega), SignOf_alike v k hv hk, bnd_s, req_p (by omega), req_p (by omega), req_p (by omega), wk (e := (k : Int) + 1) (by omega) (by omega), show (8 * (i : Int) + (v : Int)).toNat = 8 * i + v by omega, show (8 * (i : Int) + (k : Int)).toNat = 8 * i + k by omega]
   rfl) (fun i v a b s => by unfold impl_sums_l86; rw [sel_no (by simp)])
 have e2 : loop (impl_sums_l158 (half8 p)) (0, List.replicate (64 : Int).toNat 0) = some (sums8 p) :=
  sum_loops (f2 := impl_sums_l170 (half8 p)) (f3 := impl_sums_l172 (half8 p)) (fun i v k => colT (half8 p) i v k) (fun _ => rfl) (fun _ _ => rfl) (fun i v k a b s hi hv hk hs => by
   have hl := half8_len p
   unfold impl_sums_l172
   simp only
   rw [sel_yes (by omega), wk (e := 8 * (i : Int)) (by omega) (by omega), wk (e := 8 * (i : Int) + (v : Int)) (by omega) (by omega), wk (e := 8 * (k : Int)) (by omega) (by omega), wk (e := 8 * (k : Int) + (v : Int)) (by omega) (by omega), req_p (by omega), req_p (by omega), SignOf_alike i k hi hk, bnd_s, req_p (by omega), req_p (by omega), req_p (by omega), req_p (by omega), wk (e := (k : Int) + 1) (by omega) (by omega), show (8 * (i : Int) + (v : Int)).toNat = 8 * i + v by omega, show (8 * (k : Int) + (v : Int)).toNat = 8 * k + v by omega]
   rfl) (fun i v a b s => by unfold impl_sums_l172; rw [sel_no (by simp)])
 rw [e1, bnd_s, req_p (by omega), e2, bnd_s]
theorem spec_l10Row_eq (p : List Int) (hp : p.length = 64) (i v : Nat) (hi : i < 8) (hv : v < 8) : spec_l10Row p i v = some (acc8 (rowT p i v) 8) := by
 obtain ⟨o, e, h⟩ := acc_loop (f := spec_l10Row_l2 p i v) 8 (fun k s => s = acc8 (rowT p i v) k) (by
  intro k s hk g
  subst g
  unfold spec_l10Row_l2
  simp only
  rw [sel_yes (by omega), wk (e := 8 * (i : Int)) (by omega) (by omega), wk (e := 8 * (i : Int) + (k : Int)) (by omega) (by omega), req_p (by omega), spec_SignOf_eq v k hv hk, bnd_s, wk (e := (k : Int) + 1) (by omega) (by omega), show (8 * (i : Int) + (k : Int)).toNat = 8 * i + k by omega, Int.mul_comm (p.getD _ _)]
  exact ⟨_, rfl, rfl⟩) (by intro s; unfold spec_l10Row_l2; rw [sel_no (by simp)]) 0 rfl
 unfold spec_l10Row
 rw [e, bnd_s, h]
theorem spec_l10Sums_eq (p : List Int) (hp : p.length = 64) : spec_l10Sums p = some (sums8 p) := by
 have hm : maxLen = 9223372036854775807 := rfl
 unfold spec_l10Sums
 obtain ⟨o, e, ho⟩ := st_loop (f := spec_l10Sums_l12 p) 8 (fun i s => s = (List.range (8 * i)).map fun j => acc8 (rowT p (j / 8) (j % 8)) 8) (by
  intro i s hi g
  subst g
  obtain ⟨r, er, hr⟩ := st_loop (f := spec_l10Sums_l14 p ((i : Int), (List.range (8 * i)).map fun j => acc8 (rowT p (j / 8) (j % 8)) 8)) 8 (fun v s => s = (List.range (8 * i + v)).map fun j => acc8 (rowT p (j / 8) (j % 8)) 8) (by
   intro v s hv g
   subst g
   unfold spec_l10Sums_l14
   simp only
   rw [sel_yes (by omega), spec_l10Row_eq p hp i v hi hv, bnd_s, req_p (by simp only [List.length_singleton, List.length_map, List.length_range]; omega), wk (e := (v : Int) + 1) (by omega) (by omega)]
   refine ⟨_, rfl, ?_⟩
   rw [show 8 * i + (v + 1) = (8 * i + v) + 1 by omega, List.range_succ, List.map_append, List.map_singleton, show (8 * i + v) / 8 = i by omega, show (8 * i + v) % 8 = v by omega]) (by intro s; unfold spec_l10Sums_l14; rw [sel_no (by simp)]) _ rfl
  rw [Nat.add_zero] at er
  unfold spec_l10Sums_l12
  simp only
  rw [sel_yes (by omega), er, bnd_s, wk (e := (i : Int) + 1) (by omega) (by omega)]
  exact ⟨_, rfl, by rw [hr, show 8 * (i + 1) = 8 * i + 8 by omega]⟩) (by intro s; unfold spec_l10Sums_l12; rw [sel_no (by simp)]) [] rfl
 have ho' : o = half8 p := by rw [ho]; rfl
 rw [e, bnd_s, ho']
 obtain ⟨o2, e2, ho2⟩ := st_loop (f := spec_l10Sums_l146 (half8 p)) 8 (fun i s => s = (List.range (8 * i)).map fun j => acc8 (colT (half8 p) (j / 8) (j % 8)) 8) (by
  intro i s hi g
  subst g
  obtain ⟨r, er, hr⟩ := st_loop (f := spec_l10Sums_l168 (half8 p) ((i : Int), (List.range (8 * i)).map fun j => acc8 (colT (half8 p) (j / 8) (j % 8)) 8)) 8 (fun v s => s = (List.range (8 * i + v)).map fun j => acc8 (colT (half8 p) (j / 8) (j % 8)) 8) (by
   intro v s hv g
   obtain ⟨c, ec, hc⟩ := acc_loop (f := spec_l10Sums_l172 (half8 p) ((i : Int), (List.range (8 * i)).map fun j => acc8 (colT (half8 p) (j / 8) (j % 8)) 8) ((v : Int), s)) 8 (fun k x => x = acc8 (colT (half8 p) i v) k) (by
    intro k x hk g
    subst g
    have hl := half8_len p
    unfold spec_l10Sums_l172
    simp only
    rw [sel_yes (by omega), spec_SignOf_eq i k hi hk, bnd_s, wk (e := 8 * (k : Int)) (by omega) (by omega), wk (e := 8 * (k : Int) + (v : Int)) (by omega) (by omega), req_p (by omega), req_p (by omega), wk (e := (k : Int) + 1) (by omega) (by omega), show (8 * (k : Int) + (v : Int)).toNat = 8 * k + v by omega]
    exact ⟨_, rfl, rfl⟩) (by intro s; unfold spec_l10Sums_l172; rw [sel_no (by simp)]) 0 rfl
   subst g
   unfold spec_l10Sums_l168
   simp only
   rw [sel_yes (by omega), ec, bnd_s, req_p (by simp only [List.length_singleton, List.length_map, List.length_range]; omega), wk (e := (v : Int) + 1) (by omega) (by omega)]
   refine ⟨_, rfl, ?_⟩
   rw [hc, show 8 * i + (v + 1) = (8 * i + v) + 1 by omega, List.range_succ, List.map_append, List.map_singleton, show (8 * i + v) / 8 = i by omega, show (8 * i + v) % 8 = v by omega]) (by intro s; unfold spec_l10Sums_l168; rw [sel_no (by simp)]) _ rfl
  rw [Nat.add_zero] at er
  unfold spec_l10Sums_l146
  simp only
  rw [sel_yes (by omega), er, bnd_s, wk (e := (i : Int) + 1) (by omega) (by omega)]
  exact ⟨_, rfl, by rw [hr, show 8 * (i + 1) = 8 * i + 8 by omega]⟩) (by intro s; unfold spec_l10Sums_l146; rw [sel_no (by simp)]) [] rfl
 rw [e2, bnd_s, ho2]
 rfl
theorem areIn_yes (l : List Int) (n B : Int) (hn : (l.length : Int) = n) (hn2 : n ≤ 1000000) (h : inB B l) : impl_areIn l n (-B) B = some true := by
 rw [impl_areIn_eq l n (-B) B (by omega), hn, beq_self_eq_true, Bool.and_true]
 congr 1
 rw [List.all_eq_true]
 intro x hx
 rw [decide_eq_true_eq]; exact h x hx
theorem settled_alike (o : List Int) {f : Int × List Int → Option (Lp (Int × List Int) (List Int))} (n : Nat) (hn : n ≤ 64) (hl : o.length = n) (hf : ∀ v : Int × List Int, f v = sel (decide (v.1 < (n : Int))) (req (0 ≤ v.1 ∧ v.1 < v.2.length) <| req (v.1.toNat < v.2.length) <| bnd (spec_l09Down (wrapK .i64 ((v.2.getD v.1.toNat 0) + 32)) 64) fun q => req (0 ≤ v.1 ∧ v.1 < v.2.length) <| req (v.1.toNat < v.2.length) <| some (.go (wrapK .i64 (v.1 + 1), (v.2.set v.1.toNat q)))) (some (.done v.2))) : bnd (impl_settled o) (fun q => some q.2) = bnd (loop f (0, o)) fun q => some q := by
 unfold impl_settled
 have : impl_settled_l2 o = f := by
  funext v
  rw [hf, ← hl]; rfl
 rw [this]
 cases loop f (0, o) <;> rfl
theorem EightBack_alike (p : List Int) (hl : p.length = 64) (hb : inB 10000000 p) : impl_EightBack p = spec_EightBack p := by
 unfold impl_EightBack spec_EightBack
 rw [areIn_yes p 64 10000000 (by omega) (by omega) hb, l09All_yes p 64 10000000 (by omega) (by omega) (by omega) hb, bnd_s, bnd_s, Bool.not_true, sel_f, sel_f, impl_sums_eq p hl, spec_l10Sums_eq p hl, bnd_s, bnd_s]
 exact settled_alike (sums8 p) 64 (by omega) (sums8_len p) (fun _ => rfl)
theorem Eight_alike (p : List Int) (hl : p.length = 64) (hb : inB 1000 p) : impl_Eight p = spec_Eight p := by
 unfold impl_Eight spec_Eight
 rw [areIn_yes p 64 1000 (by omega) (by omega) hb, l09All_yes p 64 1000 (by omega) (by omega) (by omega) hb, bnd_s, bnd_s, Bool.not_true, sel_f, sel_f, impl_sums_eq p hl, spec_l10Sums_eq p hl, bnd_s]
def tgA (q : Int → Int → Int → Int → Option (Int × Int × Int × Int)) (v4 : (Int × (List Int))) : Option (Lp (Int × (List Int)) (List Int)) :=
sel (decide (v4.1 < 16)) (
req (0 ≤ v4.1 ∧ v4.1 < v4.2.length) <|
req (v4.1.toNat < v4.2.length) <|
req (0 ≤ (wrapK .i64 (v4.1 + 1)) ∧ (wrapK .i64 (v4.1 + 1)) < v4.2.length) <|
req ((wrapK .i64 (v4.1 + 1)).toNat < v4.2.length) <|
req (0 ≤ (wrapK .i64 (v4.1 + 2)) ∧ (wrapK .i64 (v4.1 + 2)) < v4.2.length) <|
req ((wrapK .i64 (v4.1 + 2)).toNat < v4.2.length) <|
req (0 ≤ (wrapK .i64 (v4.1 + 3)) ∧ (wrapK .i64 (v4.1 + 3)) < v4.2.length) <|
req ((wrapK .i64 (v4.1 + 3)).toNat < v4.2.length) <|
bnd (q (v4.2.getD v4.1.toNat 0) (v4.2.getD ((wrapK .i64 (v4.1 + 1)).toNat) 0) (v4.2.getD ((wrapK .i64 (v4.1 + 2)).toNat) 0) (v4.2.getD ((wrapK .i64 (v4.1 + 3)).toNat) 0)) fun q8 =>
req (0 ≤ v4.1 ∧ v4.1 ≤ (wrapK .i64 (v4.1 + 4)) ∧ (wrapK .i64 (v4.1 + 4)) ≤ (v4.2.length : Int)) <|
req ((v4.1.toNat + ((wrapK .i64 (v4.1 + 4)).toNat - v4.1.toNat) ≤ v4.2.length ∧ ([q8.1, q8.2.1, q8.2.2.1, q8.2.2.2]).length ≤ ((wrapK .i64 (v4.1 + 4)).toNat - v4.1.toNat))) <|
some (.go (wrapK .i64 (v4.1 + 4), (over v4.2 v4.1.toNat ([q8.1, q8.2.1, q8.2.2.1, q8.2.2.2]))))) (
some (.done v4.2))
def tgB (v17 : (Int × (List Int))) (q26 : (Int × Int × Int × Int)) (v28 : (Int × (List Int))) : Option (Lp (Int × (List Int)) (List Int)) :=
sel (decide (v28.1 < 4)) (
req (0 ≤ v28.1 ∧ v28.1 < ([q26.1, q26.2.1, q26.2.2.1, q26.2.2.2] : List Int).length) <|
req (0 ≤ (wrapK .i64 (v17.1 + (wrapK .i64 (4 * v28.1)))) ∧ (wrapK .i64 (v17.1 + (wrapK .i64 (4 * v28.1)))) < v28.2.length) <|
req ((wrapK .i64 (v17.1 + (wrapK .i64 (4 * v28.1)))).toNat < v28.2.length) <|
some (.go (wrapK .i64 (v28.1 + 1), (v28.2.set ((wrapK .i64 (v17.1 + (wrapK .i64 (4 * v28.1)))).toNat) (([q26.1, q26.2.1, q26.2.2.1, q26.2.2.2] : List Int).getD v28.1.toNat 0))))) (
some (.done v28.2))
noncomputable def tgC (q : Int → Int → Int → Int → Option (Int × Int × Int × Int)) (v17 : (Int × (List Int))) : Option (Lp (Int × (List Int)) (List Int)) :=
sel (decide (v17.1 < 4)) (
req (0 ≤ v17.1 ∧ v17.1 < v17.2.length) <|
req (v17.1.toNat < v17.2.length) <|
req (0 ≤ (wrapK .i64 (v17.1 + 4)) ∧ (wrapK .i64 (v17.1 + 4)) < v17.2.length) <|
req ((wrapK .i64 (v17.1 + 4)).toNat < v17.2.length) <|
req (0 ≤ (wrapK .i64 (v17.1 + 8)) ∧ (wrapK .i64 (v17.1 + 8)) < v17.2.length) <|
req ((wrapK .i64 (v17.1 + 8)).toNat < v17.2.length) <|
req (0 ≤ (wrapK .i64 (v17.1 + 12)) ∧ (wrapK .i64 (v17.1 + 12)) < v17.2.length) <|
req ((wrapK .i64 (v17.1 + 12)).toNat < v17.2.length) <|
bnd (q (v17.2.getD v17.1.toNat 0) (v17.2.getD ((wrapK .i64 (v17.1 + 4)).toNat) 0) (v17.2.getD ((wrapK .i64 (v17.1 + 8)).toNat) 0) (v17.2.getD ((wrapK .i64 (v17.1 + 12)).toNat) 0)) fun q26 =>
bnd (loop (tgB v17 q26) (0, v17.2)) fun v30 =>
some (.go (wrapK .i64 (v17.1 + 1), v30))) (
some (.done v17.2))
noncomputable def turnG (q : Int → Int → Int → Int → Option (Int × Int × Int × Int)) (p0 : (List Int)) : Option (List Int) :=
bnd (impl_copyInts p0) fun q1 =>
bnd (loop (tgA q) (0, q1)) fun v7 =>
bnd (loop (tgC q) (0, v7)) fun v25 =>
some v25
theorem turn_back : impl_turned_impl_FourBack_1 = turnG impl_FourBack_1 := rfl
theorem turn_four : impl_turned_impl_Four_1 = turnG impl_Four_1 := rfl
abbrev Q4 := Int × Int × Int × Int
def pick4 (q : Q4) (i : Nat) : Int := [q.1, q.2.1, q.2.2.1, q.2.2.2].getD i 0
def rows4 (t : Int → Int → Int → Int → Q4) (p : List Int) : List Int := (List.range 16).map fun j => pick4 (t (p.getD (4 * (j / 4)) 0) (p.getD (4 * (j / 4) + 1) 0) (p.getD (4 * (j / 4) + 2) 0) (p.getD (4 * (j / 4) + 3) 0)) (j % 4)
def flip4 (p : List Int) : List Int := (List.range 16).map fun j => p.getD (j % 4 * 4 + j / 4) 0
theorem rows4_len (t : Int → Int → Int → Int → Q4) (p : List Int) : (rows4 t p).length = 16 := by simp [rows4]
theorem flip4_len (p : List Int) : (flip4 p).length = 16 := by simp [flip4]
theorem over_getD {l m : List Int} {i : Nat} (h : i + m.length ≤ l.length) (j : Nat) : (over l i m).getD j 0 = if i ≤ j ∧ j < i + m.length then m.getD (j - i) 0 else l.getD j 0 := by
 rw [List.getD_eq_getElem?_getD, over_get h]
 split <;> rw [List.getD_eq_getElem?_getD]
theorem turnG_eq {q : Int → Int → Int → Int → Option Q4} {t : Int → Int → Int → Int → Q4} (hq : ∀ a b c d, q a b c d = some (t a b c d)) (p : List Int) (hp : p.length = 16) : turnG q p = some (flip4 (rows4 t (flip4 (rows4 t p)))) := by
 have hm : maxLen = 9223372036854775807 := rfl
 unfold turnG impl_copyInts
 rw [req_p (by simp only [List.length_nil]; omega), bnd_s, List.nil_append]
 have hA : loop (tgA q) (0, p) = some (rows4 t p) := by
  have key : ∀ r : Nat, r ≤ 4 → ∀ s : List Int, s.length = 16 → (∀ j, j < 4 * r → s.getD j 0 = (rows4 t p).getD j 0) → (∀ j, 4 * r ≤ j → s.getD j 0 = p.getD j 0) → loop (tgA q) (((4 * r : Nat) : Int), s) = some (rows4 t p) := by
   refine down_to _ ?_ ?_
   ·
    intro s h1 h2 _
    refine ldone ?_
    unfold tgA
    rw [sel_no (by simp), list_eq h1 (rows4_len t p) h2]
   ·
    intro r hr ih s h1 h2 h3
    refine lgo (y := (((4 * (r + 1) : Nat) : Int), over s (4 * r) [pick4 (t (p.getD (4 * r) 0) (p.getD (4 * r + 1) 0) (p.getD (4 * r + 2) 0) (p.getD (4 * r + 3) 0)) 0, pick4 (t (p.getD (4 * r) 0) (p.getD (4 * r + 1) 0) (p.getD (4 * r + 2) 0) (p.getD (4 * r + 3) 0)) 1, pick4 (t (p.getD (4 * r) 0) (p.getD (4 * r + 1) 0) (p.getD (4 * r + 2) 0) (p.getD (4 * r + 3) 0)) 2, pick4 (t (p.getD (4 * r) 0) (p.getD (4 * r + 1) 0) (p.getD (4 * r + 2) 0) (p.getD (4 * r + 3) 0)) 3])) ?_ (ih _ ?_ ?_ ?_)
    ·
     unfold tgA
     simp only
     rw [sel_yes (by omega), wk (e := ((4 * r : Nat) : Int) + 1) (by omega) (by omega), wk (e := ((4 * r : Nat) : Int) + 2) (by omega) (by omega), wk (e := ((4 * r : Nat) : Int) + 3) (by omega) (by omega), wk (e := ((4 * r : Nat) : Int) + 4) (by omega) (by omega)]
     rw [req_p (by omega), req_p (by omega), req_p (by omega), req_p (by omega), req_p (by omega), req_p (by omega), req_p (by omega), req_p (by omega), hq, bnd_s, req_p (by omega), req_p (by simp only [List.length_cons, List.length_nil]; omega)]
     rw [show (((4 * r : Nat) : Int) + 1).toNat = 4 * r + 1 by omega, show (((4 * r : Nat) : Int) + 2).toNat = 4 * r + 2 by omega, show (((4 * r : Nat) : Int) + 3).toNat = 4 * r + 3 by omega, Int.toNat_natCast, h3 _ (by omega), h3 _ (by omega), h3 _ (by omega), h3 _ (by omega)]
     rfl
    ·
     rw [over_length (by simp only [List.length_cons, List.length_nil]; omega)]; exact h1
    ·
     intro j hj
     rw [over_getD (by simp only [List.length_cons, List.length_nil]; omega)]
     simp only [List.length_cons, List.length_nil]
     by_cases h : 4 * r ≤ j
     ·
      rw [if_pos (by omega)]
      unfold rows4
      rw [getD_map _ (by omega), show 4 * (j / 4) = 4 * r by omega]
      obtain h | h | h | h : j = 4 * r ∨ j = 4 * r + 1 ∨ j = 4 * r + 2 ∨ j = 4 * r + 3 := by omega
      ·
       rw [h, show 4 * r - 4 * r = 0 by omega, show (4 * r) % 4 = 0 by omega]; rfl
      ·
       rw [h, show 4 * r + 1 - 4 * r = 1 by omega, show (4 * r + 1) % 4 = 1 by omega]; rfl
      ·
       rw [h, show 4 * r + 2 - 4 * r = 2 by omega, show (4 * r + 2) % 4 = 2 by omega]; rfl
      ·
       rw [h, show 4 * r + 3 - 4 * r = 3 by omega, show (4 * r + 3) % 4 = 3 by omega]; rfl
     ·
      rw [if_neg (by omega)]; exact h2 j (by omega)
    ·
     intro j hj
     rw [over_getD (by simp only [List.length_cons, List.length_nil]; omega), if_neg (by simp only [List.length_cons, List.length_nil]; omega)]
     exact h3 j (by omega)
  exact key 0 (by omega) p hp (fun j hj => by omega) fun _ _ => rfl
 rw [hA, bnd_s]
 generalize hR : rows4 t p = R
 have hl : R.length = 16 := by rw [← hR]; exact rows4_len t p
 have hC : loop (tgC q) (0, R) = some (flip4 (rows4 t (flip4 R))) := by
  have at4 : ∀ j : Nat, j < 16 → (flip4 (rows4 t (flip4 R))).getD j 0 = pick4 (t (R.getD (j % 4) 0) (R.getD (j % 4 + 4) 0) (R.getD (j % 4 + 8) 0) (R.getD (j % 4 + 12) 0)) (j / 4) := by
   intro j hj
   rw [flip4, getD_map _ hj, rows4, getD_map _ (by omega), flip4, getD_map _ (by omega), getD_map _ (by omega), getD_map _ (by omega), getD_map _ (by omega)]
   rw [show (j % 4 * 4 + j / 4) / 4 = j % 4 by omega, show (j % 4 * 4 + j / 4) % 4 = j / 4 by omega, show 4 * (j % 4) % 4 * 4 + 4 * (j % 4) / 4 = j % 4 by omega, show (4 * (j % 4) + 1) % 4 * 4 + (4 * (j % 4) + 1) / 4 = j % 4 + 4 by omega, show (4 * (j % 4) + 2) % 4 * 4 + (4 * (j % 4) + 2) / 4 = j % 4 + 8 by omega, show (4 * (j % 4) + 3) % 4 * 4 + (4 * (j % 4) + 3) / 4 = j % 4 + 12 by omega]
  obtain ⟨o, e, o1, o2, _⟩ := st_loop2 (f := tgC q) 4 (fun c s => s.length = 16 ∧ (∀ j, j < 16 → j % 4 < c → s.getD j 0 = (flip4 (rows4 t (flip4 R))).getD j 0) ∧ ∀ j, j < 16 → c ≤ j % 4 → s.getD j 0 = R.getD j 0) (by
   intro c s hc ⟨g1, g2, g3⟩
   obtain ⟨r, er, r1, r2, r3⟩ := st_loop2 (f := tgB ((c : Int), s) (t (R.getD c 0) (R.getD (c + 4) 0) (R.getD (c + 8) 0) (R.getD (c + 12) 0))) 4 (fun i s' => s'.length = 16 ∧ (∀ j, j < 16 → j % 4 ≠ c → s'.getD j 0 = s.getD j 0) ∧ ∀ j, j < 16 → j % 4 = c → j / 4 < i → s'.getD j 0 = pick4 (t (R.getD c 0) (R.getD (c + 4) 0) (R.getD (c + 8) 0) (R.getD (c + 12) 0)) (j / 4)) (by
    intro i s' hi ⟨k1, k2, k3⟩
    unfold tgB
    simp only
    rw [sel_yes (by omega), req_p (by simp only [List.length_cons, List.length_nil]; omega), wk (e := 4 * (i : Int)) (by omega) (by omega), wk (e := (c : Int) + 4 * (i : Int)) (by omega) (by omega), req_p (by omega), req_p (by omega), wk (e := (i : Int) + 1) (by omega) (by omega), show ((c : Int) + 4 * (i : Int)).toNat = c + 4 * i by omega, Int.toNat_natCast]
    refine ⟨_, rfl, by rw [List.length_set]; exact k1, fun j hj hjc => ?_, fun j hj hjc hji => ?_⟩
    ·
     rw [getD_set_at _ _ _ _ (by omega), if_neg (by omega)]; exact k2 j hj hjc
    ·
     rw [getD_set_at _ _ _ _ (by omega)]
     by_cases h : c + 4 * i = j
     ·
      rw [if_pos h, show j / 4 = i by omega]; rfl
     ·
      rw [if_neg h]; exact k3 j hj hjc (by omega)) (fun z _ => by unfold tgB; rw [sel_no (by simp)]) s ⟨g1, fun _ _ _ => rfl, fun j hj hjc hji => by omega⟩
   unfold tgC
   simp only
   rw [sel_yes (by omega), wk (e := (c : Int) + 4) (by omega) (by omega), wk (e := (c : Int) + 8) (by omega) (by omega), wk (e := (c : Int) + 12) (by omega) (by omega), req_p (by omega), req_p (by omega), req_p (by omega), req_p (by omega), req_p (by omega), req_p (by omega), req_p (by omega), req_p (by omega), hq, bnd_s, show ((c : Int) + 4).toNat = c + 4 by omega, show ((c : Int) + 8).toNat = c + 8 by omega, show ((c : Int) + 12).toNat = c + 12 by omega, Int.toNat_natCast, g3 c (by omega) (by omega), g3 (c + 4) (by omega) (by omega), g3 (c + 8) (by omega) (by omega), g3 (c + 12) (by omega) (by omega), er, bnd_s, wk (e := (c : Int) + 1) (by omega) (by omega)]
   refine ⟨r, rfl, r1, fun j hj hjc => ?_, fun j hj hjc => ?_⟩
   ·
    by_cases h : j % 4 = c
    ·
     rw [r3 j hj h (by omega), at4 j hj, h]
    ·
     rw [r2 j hj h]; exact g2 j hj (by omega)
   ·
    rw [r2 j hj (by omega)]; exact g3 j hj (by omega)) (fun z _ => by unfold tgC; rw [sel_no (by simp)]) R ⟨hl, fun j hj hjc => by omega, fun _ _ _ => rfl⟩
  rw [e]
  congr 1
  exact list_eq o1 (flip4_len _) fun j hj => o2 j hj (by omega)
 rw [hC, bnd_s]
theorem spec_l09Flip_eq (p : List Int) (hl : p.length = 16) : spec_l09Flip p = some (flip4 p) := by
 unfold spec_l09Flip
 rw [req_p (by omega)]
 obtain ⟨o, e, o1, o2⟩ := st_loop2 (f := spec_l09Flip_l2 p) 16 (fun i s => s.length = 16 ∧ ∀ j, j < 16 → j % 4 * 4 + j / 4 < i → s.getD j 0 = p.getD (j % 4 * 4 + j / 4) 0) (by
  intro i s hi ⟨g1, g2⟩
  unfold spec_l09Flip_l2
  simp only
  rw [sel_yes (by omega), req_p (by omega), req_p (by omega), req_p (by omega), tmod_pos (by omega), tdiv_pos (by omega), wk (e := (i : Int) / 4) (by omega) (by omega), wk (e := (i : Int) % 4 * 4) (by omega) (by omega), wk (e := (i : Int) % 4 * 4 + (i : Int) / 4) (by omega) (by omega), req_p (by omega), req_p (by omega), wk (e := (i : Int) + 1) (by omega) (by omega), Int.toNat_natCast, show ((i : Int) % 4 * 4 + (i : Int) / 4).toNat = i % 4 * 4 + i / 4 by omega]
  refine ⟨_, rfl, by rw [List.length_set]; exact g1, fun j hj hji => ?_⟩
  rw [getD_set_at _ _ _ _ (by omega)]
  by_cases h : i % 4 * 4 + i / 4 = j
  ·
   rw [if_pos h, show j % 4 * 4 + j / 4 = i by omega]
  ·
   rw [if_neg h]; exact g2 j hj (by omega)) (fun z _ => by unfold spec_l09Flip_l2; rw [sel_no (by simp)]) (List.replicate (16 : Int).toNat 0) ⟨by simp, fun j hj h => by omega⟩
 rw [e, bnd_s]
 congr 1
 exact list_eq o1 (flip4_len p) fun j hj => by rw [o2 j hj (by omega), flip4, getD_map _ hj]
theorem rows_list {f : Int × List Int → Option (Lp (Int × List Int) (List Int))} {t : Int → Int → Int → Int → Q4} (p : List Int) (h : ∀ (i : Nat) (s : List Int), i < 4 → s.length = 4 * i → f ((i : Int), s) = some (.go (((i + 1 : Nat) : Int), s ++ [(t (p.getD (4 * i) 0) (p.getD (4 * i + 1) 0) (p.getD (4 * i + 2) 0) (p.getD (4 * i + 3) 0)).1, (t (p.getD (4 * i) 0) (p.getD (4 * i + 1) 0) (p.getD (4 * i + 2) 0) (p.getD (4 * i + 3) 0)).2.1, (t (p.getD (4 * i) 0) (p.getD (4 * i + 1) 0) (p.getD (4 * i + 2) 0) (p.getD (4 * i + 3) 0)).2.2.1, (t (p.getD (4 * i) 0) (p.getD (4 * i + 1) 0) (p.getD (4 * i + 2) 0) (p.getD (4 * i + 3) 0)).2.2.2]))) (he : ∀ s, f (4, s) = some (.done s)) : loop f (0, []) = some (rows4 t p) := by
 obtain ⟨o, e, ho⟩ := st_loop2 (f := f) 4 (fun i s => s = (List.range (4 * i)).map fun j => pick4 (t (p.getD (4 * (j / 4)) 0) (p.getD (4 * (j / 4) + 1) 0) (p.getD (4 * (j / 4) + 2) 0) (p.getD (4 * (j / 4) + 3) 0)) (j % 4)) (by
  intro i s hi g
  refine ⟨_, h i s hi (by rw [g]; simp), ?_⟩
  rw [g, show 4 * (i + 1) = 4 * i + 1 + 1 + 1 + 1 by omega]
  simp only [List.range_succ, List.map_append, List.map_singleton, List.append_assoc]
  rw [show (4 * i + 1 + 1 + 1) / 4 = i by omega, show (4 * i + 1 + 1) / 4 = i by omega, show (4 * i + 1) / 4 = i by omega, show 4 * i / 4 = i by omega, show (4 * i + 1 + 1 + 1) % 4 = 3 by omega, show (4 * i + 1 + 1) % 4 = 2 by omega, show (4 * i + 1) % 4 = 1 by omega, show 4 * i % 4 = 0 by omega]
  rfl) (fun z _ => he z) [] rfl
 rw [e, ho]; rfl
def t4F (a b c d : Int) : Q4 := (wrapK .i64 ((wrapK .i64 ((wrapK .i64 (a + b)) + c)) + d), wrapK .i64 ((wrapK .i64 ((wrapK .i64 ((wrapK .i64 (2 * a)) + b)) - c)) - (wrapK .i64 (2 * d))), wrapK .i64 ((wrapK .i64 ((wrapK .i64 (a - b)) - c)) + d), wrapK .i64 ((wrapK .i64 ((wrapK .i64 (a - (wrapK .i64 (2 * b)))) + (wrapK .i64 (2 * c)))) - d))
theorem impl_Four_1_eq (a b c d : Int) : impl_Four_1 a b c d = some (t4F a b c d) := rfl
def downTo (a b : Int) : Int := wrapK .i64 (if a.tmod b < 0 then wrapK .i64 (a.tdiv b) - 1 else a.tdiv b)
theorem l09Down_eq (a b : Int) (hb : b ≠ 0) : spec_l09Down a b = some (downTo a b) := by
 unfold spec_l09Down downTo
 rw [req_p hb, req_p hb, sel_d]
 split <;> rfl
def t4B (a b c d : Int) : Q4 := (wrapK .i64 ((wrapK .i64 (a + c)) + (wrapK .i64 (b + downTo d 2))), wrapK .i64 ((wrapK .i64 (a - c)) + (wrapK .i64 (downTo b 2 - d))), wrapK .i64 ((wrapK .i64 (a - c)) - (wrapK .i64 (downTo b 2 - d))), wrapK .i64 ((wrapK .i64 (a + c)) - (wrapK .i64 (b + downTo d 2))))
theorem impl_FourBack_1_eq (a b c d : Int) : impl_FourBack_1 a b c d = some (t4B a b c d) := by
 unfold impl_FourBack_1
 rw [floor_alike, l09Down_eq b 2 (by omega), l09Down_eq d 2 (by omega), bnd_s, bnd_s]; rfl
theorem spec_l09Backs_eq (p : List Int) (hl : p.length = 16) : spec_l09Backs p = some (rows4 t4B p) := by
 have hm : maxLen = 9223372036854775807 := rfl
 unfold spec_l09Backs
 rw [rows_list (f := spec_l09Backs_l2 p) (t := t4B) p (by
  intro i s hi hs
  unfold spec_l09Backs_l2
  simp only
  rw [sel_yes (by omega), wk (e := 4 * (i : Int)) (by omega) (by omega), wk (e := 4 * (i : Int) + 1) (by omega) (by omega), wk (e := 4 * (i : Int) + 2) (by omega) (by omega), wk (e := 4 * (i : Int) + 3) (by omega) (by omega), req_p (by omega), req_p (by omega), req_p (by omega), req_p (by omega), show (4 * (i : Int)).toNat = 4 * i by omega, show (4 * (i : Int) + 1).toNat = 4 * i + 1 by omega, show (4 * (i : Int) + 2).toNat = 4 * i + 2 by omega, show (4 * (i : Int) + 3).toNat = 4 * i + 3 by omega, l09Down_eq _ 2 (by omega), bnd_s, l09Down_eq _ 2 (by omega), bnd_s, wk (e := (i : Int) + 1) (by omega) (by omega), req_p (by simp only [List.length_cons, List.length_nil]; omega)]
  rfl) (by intro s; unfold spec_l09Backs_l2; rw [sel_no (by simp)]), bnd_s]
theorem spec_l09Rows_eq (p : List Int) (hl : p.length = 16) : spec_l09Rows p = some (rows4 t4F p) := by
 have hm : maxLen = 9223372036854775807 := rfl
 unfold spec_l09Rows
 rw [rows_list (f := spec_l09Rows_l2 p) (t := t4F) p (by
  intro i s hi hs
  unfold spec_l09Rows_l2
  simp only
  rw [sel_yes (by omega), wk (e := 4 * (i : Int)) (by omega) (by omega), wk (e := 4 * (i : Int) + 1) (by omega) (by omega), wk (e := 4 * (i : Int) + 2) (by omega) (by omega), wk (e := 4 * (i : Int) + 3) (by omega) (by omega), req_p (by omega), req_p (by omega), req_p (by omega), req_p (by omega), show (4 * (i : Int)).toNat = 4 * i by omega, show (4 * (i : Int) + 1).toNat = 4 * i + 1 by omega, show (4 * (i : Int) + 2).toNat = 4 * i + 2 by omega, show (4 * (i : Int) + 3).toNat = 4 * i + 3 by omega, wk (e := (i : Int) + 1) (by omega) (by omega), req_p (by simp only [List.length_cons, List.length_nil]; omega)]
  rfl) (by intro s; unfold spec_l09Rows_l2; rw [sel_no (by simp)]), bnd_s]
theorem FourBack_alike (p : List Int) (hl : p.length = 16) (hb : inB 10000000 p) : impl_FourBack p = spec_FourBack p := by
 unfold impl_FourBack spec_FourBack
 rw [areIn_yes p 16 10000000 (by omega) (by omega) hb, l09All_yes p 16 10000000 (by omega) (by omega) (by omega) hb, bnd_s, bnd_s, Bool.not_true, sel_f, sel_f, turn_back, turnG_eq impl_FourBack_1_eq p hl, spec_l09Backs_eq p hl, bnd_s, bnd_s, spec_l09Flip_eq _ (rows4_len _ _), bnd_s, spec_l09Backs_eq _ (flip4_len _), bnd_s, spec_l09Flip_eq _ (rows4_len _ _), bnd_s]
 exact settled_alike _ 16 (by omega) (flip4_len _) (fun _ => rfl)
theorem Four_alike (p : List Int) (hl : p.length = 16) (hb : inB 1000 p) : impl_Four p = spec_Four p := by
 unfold impl_Four spec_Four
 rw [areIn_yes p 16 1000 (by omega) (by omega) hb, l09All_yes p 16 1000 (by omega) (by omega) (by omega) hb, bnd_s, bnd_s, Bool.not_true, sel_f, sel_f, turn_four, turnG_eq impl_Four_1_eq p hl, spec_l09Rows_eq p hl, bnd_s, bnd_s, spec_l09Flip_eq _ (rows4_len _ _), bnd_s, spec_l09Rows_eq _ (flip4_len _), bnd_s, spec_l09Flip_eq _ (rows4_len _ _), bnd_s]
theorem req_c {β : Type} {c : Prop} [Decidable c] {k k' : Option β} (h : c → k = k') : req c k = req c k' := by
 by_cases hc : c
 ·
  rw [req_p hc, req_p hc, h hc]
 ·
  unfold req; rw [if_neg hc, if_neg hc]
theorem req_pc {β : Type} {c : Prop} [Decidable c] {k k' : Option β} (h0 : c) (h : k = k') : req c k = k' := by rw [req_p h0, h]
theorem sel_c {β : Type} {b : Bool} {x x' y y' : β} (h : b = true → x = x') (h2 : b = false → y = y') : sel b x y = sel b x' y' := by
 cases b
 ·
  exact h2 rfl
 ·
  exact h rfl
theorem bnd_c {α β : Type} {x x' : Option α} {f f' : α → Option β} (h : x = x') (h2 : ∀ a, x' = some a → f a = f' a) : bnd x f = bnd x' f' := by
 subst h
 cases x with
 | none => rfl
 | some a => exact h2 a rfl
theorem loop_keep {V O : Type} {f : V → Option (Lp V O)} (I : V → Prop) (J : O → Prop) (h1 : ∀ v v', I v → f v = some (.go v') → I v') (h2 : ∀ v o, I v → f v = some (.done o) → J o) {v : V} {o : O} (h : loop f v = some o) (hv : I v) : J o := by
 obtain ⟨k, hk⟩ := loop_it.1 h
 clear h
 induction k generalizing v with
 | zero => cases hk
 | succ k ih =>
  rw [it] at hk
  cases e : f v with
  | none => rw [e] at hk; cases hk
  | some s =>
   rw [e] at hk
   cases s with
   | go y => exact ih (h1 v y hv e) hk
   | done o' => cases hk; exact h2 v o hv e
theorem SmallBack_alike (l qp p : Int) (h0 : 0 ≤ qp ∧ qp ≤ 40) (hp : 0 ≤ p ∧ p ≤ 15) : impl_SmallBack l qp p = spec_SmallBack l qp p := by
 unfold impl_SmallBack spec_SmallBack
 rw [impl_within_eq, spec_l01In_eq, ScaleOf_alike qp p h0 hp]
theorem LargeBack_alike (l qp : Int) (h0 : 0 ≤ qp ∧ qp ≤ 40) : impl_LargeBack l qp = spec_LargeBack l qp := by
 unfold impl_LargeBack spec_LargeBack
 rw [impl_within_eq, spec_l01In_eq, StepOf_alike qp h0]
theorem sized_alike (x : Int) (h : -1000000000000 ≤ x ∧ x ≤ 1000000000000) : impl_size x = spec_l08Sized x := by
 unfold impl_size spec_l08Sized
 rw [wk (by omega) (by omega)]
 by_cases hx : x < 0
 ·
  rw [sel_yes hx, if_pos (by omega)]
 ·
  rw [sel_no hx, if_neg (by omega)]
theorem share_all : ∀ q : Fin 41, ∀ p : Fin 16, impl_ShareOf (q.val : Int) (p.val : Int) = spec_ShareOf (q.val : Int) (p.val : Int) := by decide +kernel
theorem ShareOf_alike (qp p : Int) (h0 : 0 ≤ qp ∧ qp ≤ 40) (hp : 0 ≤ p ∧ p ≤ 15) : impl_ShareOf qp p = spec_ShareOf qp p := by
 have := share_all ⟨qp.toNat, by omega⟩ ⟨p.toNat, by omega⟩
 simp only at this
 rwa [show ((qp.toNat : Nat) : Int) = qp by omega, show ((p.toNat : Nat) : Int) = p by omega] at this
theorem signed_alike (x w : Int) : impl_signed x w = spec_l08Signed w x := rfl
theorem LargeLevel_alike (w qp : Int) (h0 : 0 ≤ qp ∧ qp ≤ 40) : impl_LargeLevel w qp = spec_LargeLevel w qp := by
 unfold impl_LargeLevel spec_LargeLevel
 rw [impl_within_eq, spec_l01In_eq, impl_within_eq, spec_l01In_eq, StepOf_alike qp h0]
 by_cases hw : -20000 ≤ w ∧ w ≤ 20000
 ·
  rw [sized_alike w (by omega)]; rfl
 ·
  rw [decide_eq_false hw]; rfl
theorem sh15 (qp : Int) (h0 : 0 ≤ qp ∧ qp ≤ 40) : wrapK .u64 (wrapK .i64 (15 + (wrapK .i64 (qp.tdiv 6)))) = wrapK .i64 (15 + (wrapK .i64 (qp.tdiv 6))) := by
 have h : ∀ q : Fin 41, wrapK .u64 (wrapK .i64 (15 + (wrapK .i64 ((q.val : Int).tdiv 6)))) = wrapK .i64 (15 + (wrapK .i64 ((q.val : Int).tdiv 6))) := by decide +kernel
 have := h ⟨qp.toNat, by omega⟩
 simp only at this
 rwa [show ((qp.toNat : Nat) : Int) = qp by omega] at this
theorem SmallLevel_alike (w qp p : Int) (h0 : 0 ≤ qp ∧ qp ≤ 40) (hp : 0 ≤ p ∧ p ≤ 15) : impl_SmallLevel w qp p = spec_SmallLevel w qp p := by
 unfold impl_SmallLevel spec_SmallLevel
 have h15 := sh15 qp h0
 simp only [impl_within_eq, spec_l01In_eq, ShareOf_alike qp p h0 hp, h15, signed_alike]
 by_cases hw : -20000 ≤ w ∧ w ≤ 20000
 ·
  simp only [sized_alike w (by omega)]
 ·
  simp only [decide_eq_false hw, bnd_s, sel_f, sel_t]
def quarterIn (k : Int) (v7 : Int × List Int) : Option (Lp (Int × List Int) (List Int)) :=
 sel (decide (v7.1 < 4)) (
 bnd (it (impl_quarter_l14 k v7) 10 (0, v7.2)) fun v18 =>
 some (.go (wrapK .i64 (v7.1 + 1), v18))) (
 some (.done v7.2))
theorem quarterIn_is {k : Int} {v : Int × List Int} {x : Lp (Int × List Int) (List Int)} (h : quarterIn k v = some x) : impl_quarter_l12 k v = some x := by
 unfold quarterIn at h
 unfold impl_quarter_l12
 rcases sel_some h with ⟨hb, h⟩ | ⟨hb, h⟩
 ·
  rw [hb, sel_t]
  obtain ⟨a, h1, h2⟩ := bnd_some h
  rw [loop_it.2 ⟨10, h1⟩, bnd_s]
  exact h2
 ·
  rw [hb, sel_f]; exact h
def quarterL (k : Int) : List Int := (it (quarterIn k) 10 (0, [])).getD []
def quarterAt (k i : Int) : Int := (wrapK .i64 ((wrapK .i64 ((wrapK .i64 (8 * (wrapK .i64 ((wrapK .i64 ((wrapK .i64 (k.tdiv 2)) * 4)) + (wrapK .i64 (i.tdiv 4)))))) + (wrapK .i64 ((k.tmod 2) * 4)))) + (i.tmod 4)))
theorem quarter_all : ∀ k : Fin 4, (it (quarterIn (k.val : Int)) 10 (0, [])).isSome = true ∧ (quarterL (k.val : Int)).length = 16 ∧ ∀ i : Fin 16, (quarterL (k.val : Int)).getD i.val 0 = quarterAt (k.val : Int) (i.val : Int) ∧ 0 ≤ quarterAt (k.val : Int) (i.val : Int) ∧ quarterAt (k.val : Int) (i.val : Int) < 64 := by decide +kernel
theorem impl_quarter_eq (k : Nat) (hk : k < 4) : impl_quarter k = some (quarterL k) ∧ (quarterL k).length = 16 ∧ ∀ i : Nat, i < 16 → (quarterL k).getD i 0 = quarterAt k i ∧ 0 ≤ quarterAt k i ∧ quarterAt k i < 64 := by
 obtain ⟨h1, h2, h3⟩ := quarter_all ⟨k, hk⟩
 refine ⟨?_, h2, fun i hi => h3 ⟨i, hi⟩⟩
 obtain ⟨o, ho⟩ := Option.isSome_iff_exists.1 h1
 have hl := loop_of 10 (it_of (fun v y => quarterIn_is (k := (k : Int))) 10 _ ho)
 unfold impl_quarter
 rw [hl, bnd_s]
 unfold quarterL; simp only at ho; rw [ho]; rfl
theorem LevelsBack_alike (p : List Int) (c : Cond) (hc : condOk c = true) (hp : lv64 p = true) : impl_LevelsBack p c = spec_LevelsBack p c := by
 have hq := condOk_qp hc
 obtain ⟨hl, hb⟩ := lv64_in hp
 unfold impl_LevelsBack spec_LevelsBack
 rw [spec_CondOk_eq, impl_CondOk_eq, impl_areLevels_eq p (by omega), hp, hc, l09All_yes p 64 5000 (by omega) (by omega) (by omega) hb]
 simp only [bnd_s, sel_t, Bool.not_true, sel_f]
 rw [Unscanned_alike 8 (Or.inr rfl) p (by omega)]
 refine sel_c (fun _ => rfl) fun _ => sel_c (fun _ => ?_) fun _ => ?_
 ·
  obtain ⟨w, ew, w1, w2⟩ := spec_Unscanned_ev 8 (Or.inr rfl) p 5000 (by omega) (by omega) hb
  rw [ew, bnd_s, bnd_s]
  have hloop : loop (impl_LevelsBack_l4 c (w, true)) (0, (w, true).1) = loop (spec_LevelsBack_l4 c) (0, (w, true).1) := by
   have : impl_LevelsBack_l4 c (w, true) = spec_LevelsBack_l4 c := by
    funext v
    unfold impl_LevelsBack_l4 spec_LevelsBack_l4
    simp only [LargeBack_alike _ _ hq, w1, hl]
    rfl
   rw [this]
  rw [hloop]
  obtain ⟨l, el, l1, l2⟩ := map_loop (f := spec_LevelsBack_l4 c) 64 (fun x => -5000 ≤ x ∧ x ≤ 5000) (fun x => -5760000 ≤ x ∧ x ≤ 5760000) (by
   intro i l hi hll hx
   obtain ⟨d, ed, d1, d2⟩ := spec_LargeBack_ev (l.getD i 0) c.Qp hx hq
   unfold spec_LevelsBack_l4
   simp only [Int.toNat_natCast]
   rw [sel_yes (by omega), req_p (by omega), req_p (by omega), ed, bnd_s, req_p (by omega), req_p (by omega), wk (e := (i : Int) + 1) (by omega) (by omega)]
   exact ⟨d, rfl, d1, d2⟩) (by intro s; unfold spec_LevelsBack_l4; rw [sel_no (by simp)]) w (by omega) w2
  simp only [el, bnd_s]
  rw [EightBack_alike l l1 (inB_mono l2 (by omega))]
 ·
  refine req_c fun _ => bnd_c ?_ fun _ _ => rfl
  refine loop_congr (fun v => (∃ k : Nat, v.1 = (k : Int) ∧ k ≤ 4) ∧ v.2.length = 64) ?_ ?_ ⟨⟨0, rfl, by omega⟩, by simp⟩
  ·
   intro ⟨k0, s⟩ ⟨⟨k, ek, hk⟩, hs⟩
   simp only at ek hs
   subst ek
   unfold impl_LevelsBack_l36 spec_LevelsBack_l36
   simp only
   refine sel_c (fun hk4 => ?_) fun _ => rfl
   have hk4 : k < 4 := by have := of_decide_eq_true hk4; omega
   rw [wk (e := 16 * (k : Int)) (by omega) (by omega), wk (e := 16 * (k : Int) + 16) (by omega) (by omega)]
   refine req_c fun _ => ?_
   rw [show (16 * (k : Int)).toNat = 16 * k by omega, show (16 * (k : Int) + 16).toNat - 16 * k = 16 by omega]
   have hcut : ((p.drop (16 * k)).take 16).length = 16 := by rw [List.length_take, List.length_drop]; omega
   obtain ⟨a, ea, a1, a2⟩ := spec_Unscanned_ev 4 (Or.inl rfl) ((p.drop (16 * k)).take 16) 5000 (by omega) (by omega) (inB_take (inB_drop hb _) _)
   rw [Unscanned_alike 4 (Or.inl rfl) _ (by omega), ea, bnd_s, bnd_s]
   have hloop : loop (impl_LevelsBack_l41 c (a, true)) (0, (a, true).1) = loop (spec_LevelsBack_l41 c) (0, (a, true).1) := by
    have : impl_LevelsBack_l41 c (a, true) = spec_LevelsBack_l41 c := by
     funext v
     unfold impl_LevelsBack_l41 spec_LevelsBack_l41
     simp only [show ((a.length : Nat) : Int) = 16 by omega]
     refine sel_c (fun h16 => ?_) fun _ => rfl
     have := of_decide_eq_true h16
     refine req_c fun h0 => req_c fun _ => ?_
     rw [SmallBack_alike _ _ _ hq (by omega)]
    rw [this]
   rw [hloop]
   obtain ⟨l, el, l1, l2⟩ := map_loop (f := spec_LevelsBack_l41 c) 16 (fun x => -5000 ≤ x ∧ x ≤ 5000) (fun x => -10000000 ≤ x ∧ x ≤ 10000000) (by
    intro i l hi hll hx
    obtain ⟨d, ed, d1, d2⟩ := spec_SmallBack_ev (l.getD i 0) c.Qp i hx hq (by omega)
    unfold spec_LevelsBack_l41
    simp only [Int.toNat_natCast]
    rw [sel_yes (by omega), req_p (by omega), req_p (by omega), ed, bnd_s, req_p (by omega), req_p (by omega), wk (e := (i : Int) + 1) (by omega) (by omega)]
    exact ⟨d, rfl, d1, d2⟩) (by intro s; unfold spec_LevelsBack_l41; rw [sel_no (by simp)]) a (by omega) a2
   obtain ⟨b, eb, b1, b2⟩ := spec_FourBack_ev l l1 l2
   obtain ⟨q1, q2, q3⟩ := impl_quarter_eq k hk4
   simp only [el, bnd_s]
   rw [FourBack_alike l l1 l2, eb, bnd_s, bnd_s, q1, bnd_s]
   refine bnd_c ?_ fun _ _ => rfl
   have : impl_LevelsBack_l42 b (quarterL k) = spec_LevelsBack_l42 ((k : Int), s) b := by
    funext v
    unfold impl_LevelsBack_l42 spec_LevelsBack_l42
    simp only [show (((quarterL k).length : Nat) : Int) = 16 by omega]
    refine sel_c (fun h16 => ?_) fun _ => rfl
    have h16 := of_decide_eq_true h16
    by_cases h0 : 0 ≤ v.1
    ·
     obtain ⟨i, hi⟩ : ∃ i : Nat, v.1 = (i : Int) := ⟨v.1.toNat, by omega⟩
     obtain ⟨v1, v2⟩ := v
     simp only at hi h0 h16
     subst hi
     obtain ⟨r1, r2, r3⟩ := q3 i (by omega)
     have e1 : (wrapK .i64 ((wrapK .i64 ((wrapK .i64 (8 * (wrapK .i64 ((wrapK .i64 ((wrapK .i64 ((k : Int).tdiv 2)) * 4)) + (wrapK .i64 ((i : Int).tdiv 4)))))) + (wrapK .i64 (((k : Int).tmod 2) * 4)))) + ((i : Int).tmod 4))) = quarterAt k i := rfl
     simp only [Int.toNat_natCast, r1, e1]
     refine req_pc (by omega) (req_pc (by omega) (req_pc (by omega) (req_pc (by omega) ?_)))
     refine (req_pc (by omega) (req_pc (by omega) (req_pc (by omega) (req_pc (by omega) (req_pc (by omega) (req_pc (by omega) ?_)))))).symm
     rfl
    ·
     unfold req
     rw [if_neg (by omega), if_pos (by omega), if_pos (by omega), if_pos (by omega), if_pos (by omega), if_neg (by omega)]
   rw [this]
  ·
   intro ⟨k0, s⟩ v' ⟨⟨k, ek, hk⟩, hs⟩ he
   simp only at ek hs
   subst ek
   unfold spec_LevelsBack_l36 at he
   simp only at he
   rcases sel_some he with ⟨hb4, he⟩ | ⟨_, he⟩
   ·
    have hk4 : k < 4 := by have := of_decide_eq_true hb4; omega
    obtain ⟨_, he⟩ := req_some he
    obtain ⟨a, _, he⟩ := bnd_some he
    obtain ⟨l, _, he⟩ := bnd_some he
    obtain ⟨b, _, he⟩ := bnd_some he
    obtain ⟨r, hr, he⟩ := bnd_some he
    rw [wk (e := (k : Int) + 1) (by omega) (by omega)] at he
    cases he
    refine ⟨⟨k + 1, rfl, by omega⟩, ?_⟩
    refine loop_keep (f := spec_LevelsBack_l42 ((k : Int), s) b) (fun v => v.2.length = 64) (fun o => o.length = 64) ?_ ?_ hr hs
    ·
     intro v v' hv he
     unfold spec_LevelsBack_l42 at he
     rcases sel_some he with ⟨_, he⟩ | ⟨_, he⟩
     ·
      obtain ⟨_, he⟩ := req_some he
      obtain ⟨_, he⟩ := req_some he
      obtain ⟨_, he⟩ := req_some he
      obtain ⟨_, he⟩ := req_some he
      obtain ⟨_, he⟩ := req_some he
      obtain ⟨_, he⟩ := req_some he
      obtain ⟨_, he⟩ := req_some he
      obtain ⟨_, he⟩ := req_some he
      cases he
      simp only [List.length_set]; exact hv
     ·
      cases he
    ·
     intro v o hv he
     unfold spec_LevelsBack_l42 at he
     rcases sel_some he with ⟨_, he⟩ | ⟨_, he⟩
     ·
      obtain ⟨_, he⟩ := req_some he
      obtain ⟨_, he⟩ := req_some he
      obtain ⟨_, he⟩ := req_some he
      obtain ⟨_, he⟩ := req_some he
      obtain ⟨_, he⟩ := req_some he
      obtain ⟨_, he⟩ := req_some he
      obtain ⟨_, he⟩ := req_some he
      obtain ⟨_, he⟩ := req_some he
      cases he
     ·
      cases he; exact hv
   ·
    cases he
theorem loop_nat {S O : Type} {f g : Int × S → Option (Lp (Int × S) O)} (n : Nat) (I : Nat → S → Prop) (h : ∀ (i : Nat) (s : S), i ≤ n → I i s → f ((i : Int), s) = g ((i : Int), s)) (hI : ∀ (i : Nat) (s : S) (v' : Int × S), i ≤ n → I i s → g ((i : Int), s) = some (.go v') → v'.1 = ((i + 1 : Nat) : Int) ∧ i + 1 ≤ n ∧ I (i + 1) v'.2) {s0 : S} (h0 : I 0 s0) : loop f (0, s0) = loop g (0, s0) := by
 refine loop_congr (fun v => ∃ i : Nat, v.1 = (i : Int) ∧ i ≤ n ∧ I i v.2) ?_ ?_ ⟨0, rfl, by omega, h0⟩
 ·
  intro ⟨k, s⟩ ⟨i, e, hi, hs⟩
  simp only at e hs
  subst e
  exact h i s hi hs
 ·
  intro ⟨k, s⟩ v' ⟨i, e, hi, hs⟩ he
  simp only at e hs
  subst e
  obtain ⟨a, b, c⟩ := hI i s v' hi hs he
  exact ⟨i + 1, a, b, c⟩
theorem quarter_loop (p : List Int) (hl : p.length = 64) (k : Nat) (hk : k < 4) : loop (impl_LevelsOf_l52 p (quarterL k)) (0, ([] : List Int)) = spec_l14Quarter p k := by
 obtain ⟨q1, q2, q3⟩ := impl_quarter_eq k hk
 unfold spec_l14Quarter
 rw [loop_nat (f := impl_LevelsOf_l52 p (quarterL k)) (g := spec_l14Quarter_l2 p k) 16 (fun _ _ => True) ?_ ?_ trivial]
 ·
  cases loop (spec_l14Quarter_l2 p k) (0, ([] : List Int)) <;> rfl
 ·
  intro i s hi _
  unfold impl_LevelsOf_l52 spec_l14Quarter_l2
  simp only [show (((quarterL k).length : Nat) : Int) = 16 by omega]
  refine sel_c (fun h16 => ?_) fun _ => rfl
  have h16 := of_decide_eq_true h16
  obtain ⟨r1, r2, r3⟩ := q3 i (by omega)
  have e1 : (wrapK .i64 ((wrapK .i64 ((wrapK .i64 (8 * (wrapK .i64 ((wrapK .i64 ((wrapK .i64 ((k : Int).tdiv 2)) * 4)) + (wrapK .i64 ((i : Int).tdiv 4)))))) + (wrapK .i64 (((k : Int).tmod 2) * 4)))) + ((i : Int).tmod 4))) = quarterAt k i := rfl
  simp only [Int.toNat_natCast, r1, e1]
  refine req_pc (by omega) (req_pc (by omega) (req_pc (by omega) ?_))
  refine (req_pc (by omega) (req_pc (by omega) (req_pc (by omega) (req_pc (by omega) (req_pc (by omega) ?_))))).symm
  rfl
 ·
  intro i s v' hi _ he
  unfold spec_l14Quarter_l2 at he
  rcases sel_some he with ⟨hb, he⟩ | ⟨_, he⟩
  ·
   have h16 := of_decide_eq_true hb
   simp only at h16 he
   obtain ⟨_, he⟩ := req_some he
   obtain ⟨_, he⟩ := req_some he
   obtain ⟨_, he⟩ := req_some he
   obtain ⟨_, he⟩ := req_some he
   obtain ⟨_, he⟩ := req_some he
   obtain ⟨_, he⟩ := req_some he
   injection he with he
   injection he with he
   subst he
   exact ⟨wk (by omega) (by omega), by omega, trivial⟩
  ·
   cases he
theorem LevelsOf_alike (p : List Int) (c : Cond) (hc : condOk c = true) (hl : p.length = 64) (hb : inB 255 p) : impl_LevelsOf p c = spec_LevelsOf p c := by
 have hq := condOk_qp hc
 unfold impl_LevelsOf spec_LevelsOf
 rw [spec_CondOk_eq, impl_CondOk_eq, areIn_yes p 64 255 (by omega) (by omega) hb, hc, l09All_yes p 64 255 (by omega) (by omega) (by omega) hb]
 simp only [bnd_s, sel_t, Bool.not_true, sel_f]
 rw [Scanned_alike 8 (Or.inr rfl) p (by omega)]
 refine sel_c (fun _ => rfl) fun _ => sel_c (fun _ => ?_) fun _ => ?_
 ·
  obtain ⟨w, ew, w1⟩ := spec_Eight_ev p hl hb
  rw [Eight_alike p hl (inB_mono hb (by omega)), ew, bnd_s, bnd_s]
  have : impl_LevelsOf_l4 c w = spec_LevelsOf_l4 c := by
   funext v
   unfold impl_LevelsOf_l4 spec_LevelsOf_l4
   simp only [LargeLevel_alike _ _ hq, w1]
   rfl
  rw [this]
  obtain ⟨l, el, l1, l2⟩ := map_loop (f := spec_LevelsOf_l4 c) 64 (fun _ => True) (fun x => -5000 ≤ x ∧ x ≤ 5000) (by
   intro i l hi hll _
   obtain ⟨d, ed, d1, d2⟩ := spec_LargeLevel_ev (l.getD i 0) c.Qp hq
   unfold spec_LevelsOf_l4
   simp only [Int.toNat_natCast]
   rw [sel_yes (by omega), req_p (by omega), req_p (by omega), ed, bnd_s, req_p (by omega), req_p (by omega), wk (e := (i : Int) + 1) (by omega) (by omega)]
   exact ⟨d, rfl, d1, d2⟩) (by intro s; unfold spec_LevelsOf_l4; rw [sel_no (by simp)]) w w1 (fun _ _ => trivial)
  rw [el, bnd_s, bnd_s, Scanned_alike 8 (Or.inr rfl) l (by omega)]
 ·
  refine bnd_c ?_ fun _ _ => rfl
  refine loop_nat 4 (fun _ _ => True) ?_ ?_ trivial
  ·
   intro k s hk _
   unfold impl_LevelsOf_l46 spec_LevelsOf_l26
   refine sel_c (fun h4 => ?_) fun _ => rfl
   have hk4 : k < 4 := by have := of_decide_eq_true h4; simp only at this; omega
   obtain ⟨q1, q2, q3⟩ := impl_quarter_eq k hk4
   simp only [q1, bnd_s]
   rw [quarter_loop p hl k hk4]
   obtain ⟨a, ea, a1, a2⟩ := spec_l14Quarter_ev p k hk4 255 hl hb
   obtain ⟨b, eb, b1, b2⟩ := spec_Four_ev a a1 a2
   rw [ea, bnd_s, bnd_s, Four_alike a a1 (inB_mono a2 (by omega)), eb, bnd_s, bnd_s]
   have : impl_LevelsOf_l54 c b = spec_LevelsOf_l30 c := by
    funext v
    unfold impl_LevelsOf_l54 spec_LevelsOf_l30
    simp only [show ((b.length : Nat) : Int) = 16 by omega]
    refine sel_c (fun h16 => ?_) fun _ => rfl
    have := of_decide_eq_true h16
    refine req_c fun h0 => req_c fun _ => ?_
    rw [SmallLevel_alike _ _ _ hq (by omega)]
   rw [this]
   obtain ⟨l, el, l1, l2⟩ := map_loop (f := spec_LevelsOf_l30 c) 16 (fun x => -9180 ≤ x ∧ x ≤ 9180) (fun x => -5000 ≤ x ∧ x ≤ 5000) (by
    intro i l hi hll hx
    obtain ⟨d, ed, d1, d2⟩ := spec_SmallLevel_ev (l.getD i 0) c.Qp i hx hq (by omega)
    unfold spec_LevelsOf_l30
    simp only [Int.toNat_natCast]
    rw [sel_yes (by omega), req_p (by omega), req_p (by omega), ed, bnd_s, req_p (by omega), req_p (by omega), wk (e := (i : Int) + 1) (by omega) (by omega)]
    exact ⟨d, rfl, d1, d2⟩) (by intro s; unfold spec_LevelsOf_l30; rw [sel_no (by simp)]) b b1 b2
   rw [el, bnd_s, bnd_s, Scanned_alike 4 (Or.inl rfl) l (by omega)]
  ·
   intro k s v' hk _ he
   unfold spec_LevelsOf_l26 at he
   rcases sel_some he with ⟨hb4, he⟩ | ⟨_, he⟩
   ·
    have hk4 := of_decide_eq_true hb4
    simp only at hk4 he
    obtain ⟨a, _, he⟩ := bnd_some he
    obtain ⟨l, _, he⟩ := bnd_some he
    obtain ⟨b, _, he⟩ := bnd_some he
    obtain ⟨r, _, he⟩ := bnd_some he
    obtain ⟨_, he⟩ := req_some he
    injection he with he
    injection he with he
    subst he
    exact ⟨wk (by omega) (by omega), by omega, trivial⟩
   ·
    cases he
theorem dot_alike {p : Pic} (ok : picOk p = true) (x y : Int) : impl_Pic_dot p x y = spec_DotAt p x y := by rw [impl_dot_eq ok, spec_DotAt_eq ok]
theorem isSquare_yes {p : Pic} (ok : picOk p = true) {x y : Int} (hx : x.tmod 8 = 0) (hy : y.tmod 8 = 0) (h : heldAt p x y = true) : impl_Pic_isSquare p x y = some true := impl_isSquare_eq ok x y hx hy h
theorem EdgesOf_alike {p : Pic} (ok : picOk p = true) {x y : Int} (hx : x.tmod 8 = 0) (hy : y.tmod 8 = 0) (h : heldAt p x y = true) : impl_EdgesOf p x y = spec_EdgesOf p x y := by
 unfold impl_EdgesOf spec_EdgesOf
 rw [impl_PicOk_eq, ok, isSquare_yes ok hx hy h, spec_l13Fits_yes ok hx hy h]
 have : impl_EdgesOf_l2 p x y = spec_EdgesOf_l2 p x y := by
  funext v
  unfold impl_EdgesOf_l2 spec_EdgesOf_l2
  simp only [dot_alike ok]
 simp only [bnd_s, sel_t, Bool.not_true, sel_f, this, dot_alike ok]
theorem EdgesOk_yes {e : Edges} (h : edgesP e) : impl_EdgesOk e = some true := by
 obtain ⟨h1, h2, h3, h4, h5, h6⟩ := h
 have side : ∀ l : List Int, (l.length = 0 ∨ l.length = 8) → (∀ x ∈ l, 0 ≤ x ∧ x ≤ 255) → bnd (sel (decide ((l.length : Int) > 0)) (bnd (impl_areIn l 8 0 255) fun q10 => some (!q10)) (some false)) (fun v9 => some v9) = some false := by
  intro l hl hb
  rcases hl with e | e
  ·
   rw [sel_no (by omega)]; rfl
  ·
   rw [sel_yes (by omega), impl_areIn_eq l 8 0 255 (by omega)]
   have : (l.all fun x => decide (0 ≤ x ∧ x ≤ 255)) = true := List.all_eq_true.2 fun x hx => decide_eq_true (hb x hx)
   rw [this, e]; rfl
 have go : ∀ (i : Nat) (l : List Int), i < 2 → ([e.Above, e.Left]).getD i dLInti64 = l → (l.length = 0 ∨ l.length = 8) → (∀ x ∈ l, 0 ≤ x ∧ x ≤ 255) → impl_EdgesOk_l2 e (i : Int) = some (.go ((i + 1 : Nat) : Int)) := by
  intro i l hi hg hl hb
  unfold impl_EdgesOk_l2
  simp only [Int.toNat_natCast, hg]
  have hs := side l hl hb
  rw [sel_yes (by simp only [List.length_cons, List.length_nil]; omega), req_p (by simp only [List.length_cons, List.length_nil]; omega), req_p (by simp only [List.length_cons, List.length_nil]; omega)]
  obtain ⟨a, ea, hs⟩ := bnd_some hs
  injection hs with hs
  subst hs
  rw [ea, bnd_s, sel_f, wk (by omega) (by omega)]
  rfl
 unfold impl_EdgesOk
 have : loop (impl_EdgesOk_l2 e) 0 = some (.out ()) := by
  refine lgo (go 0 e.Above (by omega) rfl h1 h3) (lgo (go 1 e.Left (by omega) rfl h2 h4) (ldone ?_))
  unfold impl_EdgesOk_l2
  rw [sel_no (by simp)]
 rw [this, bnd_s, impl_within_eq, bnd_s, decide_eq_true ⟨h5, h6⟩]
def sumI (l : List Int) : Nat → Int
 | 0 => 0
 | n + 1 => sumI l n + l.getD n 0
theorem sumI_range {l : List Int} (h : ∀ x ∈ l, 0 ≤ x ∧ x ≤ 255) : ∀ n : Nat, n ≤ l.length → 0 ≤ sumI l n ∧ sumI l n ≤ 255 * n
 | 0, _ => by simp [sumI]
 | n + 1, hn => by
  have a := sumI_range h n (by omega)
  have b := h (l.getD n 0) (by rw [getD_at l n (by omega)]; exact List.getElem_mem _)
  rw [sumI]; omega
theorem sum_loop {f : Int × Int → Option (Lp (Int × Int) Int)} {l : List Int} (hl : l.length ≤ 64) (h : ∀ x ∈ l, 0 ≤ x ∧ x ≤ 255) (hf : ∀ v, f v = sel (decide (v.2 < (l.length : Int))) (req (0 ≤ v.2 ∧ v.2 < l.length) <| some (.go (wrapK .i64 (v.1 + (l.getD v.2.toNat 0)), wrapK .i64 (v.2 + 1)))) (some (.done v.1))) (a : Int) (ha : 0 ≤ a ∧ a ≤ 100000) : loop f (a, 0) = some (a + sumI l l.length) := by
 obtain ⟨o, e, ho⟩ := acc_loop (f := f) l.length (fun i s => s = a + sumI l i) (by
  intro i s hi g
  have r := sumI_range h i (by omega)
  have b := h (l.getD i 0) (by rw [getD_at l i (by omega)]; exact List.getElem_mem _)
  rw [hf]
  simp only [Int.toNat_natCast]
  rw [sel_yes (by omega), req_p (by omega), wk (e := s + l.getD i 0) (by omega) (by omega), wk (e := (i : Int) + 1) (by omega) (by omega)]
  exact ⟨_, rfl, by rw [sumI]; omega⟩) (by intro s; rw [hf, sel_no (by simp)]) a (by simp [sumI])
 rw [e, ho]
theorem impl_sumOf_is {l : List Int} (hl : l.length ≤ 64) (h : ∀ x ∈ l, 0 ≤ x ∧ x ≤ 255) : impl_sumOf l = some (sumI l l.length) := by
 unfold impl_sumOf
 rw [sum_loop (f := impl_sumOf_l2 l) hl h (fun _ => rfl) 0 (by omega), bnd_s, Int.zero_add]
theorem mid_alike {e : Edges} (h : edgesP e) : (sel (decide ((wrapK .i64 ((e.Above.length : Int) + (e.Left.length : Int))) > 0)) (bnd (impl_sumOf e.Above) fun q5 => bnd (impl_sumOf e.Left) fun q6 => req ((2 : Int) ≠ 0) <| req ((wrapK .i64 ((e.Above.length : Int) + (e.Left.length : Int))) ≠ 0) <|
  some (wrapK .i64 ((wrapK .i64 ((wrapK .i64 (q5 + q6)) + (wrapK .i64 ((wrapK .i64 ((e.Above.length : Int) + (e.Left.length : Int))).tdiv 2)))).tdiv (wrapK .i64 ((e.Above.length : Int) + (e.Left.length : Int)))))) (some 128)) = spec_l13Mid e := by
 obtain ⟨h1, h2, h3, h4, h5, h6⟩ := h
 unfold spec_l13Mid
 have r1 := sumI_range h3 e.Above.length (Nat.le_refl _)
 have r2 := sumI_range h4 e.Left.length (Nat.le_refl _)
 rw [wk (e := (e.Above.length : Int) + (e.Left.length : Int)) (by omega) (by omega)]
 by_cases hz : (e.Above.length : Int) + (e.Left.length : Int) = 0
 ·
  rw [sel_no (by omega), sel_pos (by simpa using hz)]
 ·
  rw [sel_yes (by omega), sel_neg (by simpa using hz), impl_sumOf_is (by omega) h3, bnd_s, impl_sumOf_is (by omega) h4, bnd_s, req_p (by omega), req_p hz, req_p (by omega), tdiv_pos (a := (e.Above.length : Int) + (e.Left.length : Int)) (by omega), wk (e := ((e.Above.length : Int) + (e.Left.length : Int)) / 2) (by omega) (by omega),
   sum_loop (f := spec_l13Mid_l2 e) (by omega) h3 (fun _ => rfl) _ (by omega), bnd_s, sum_loop (f := spec_l13Mid_l4 e) (by omega) h4 (fun _ => rfl) _ (by omega), bnd_s, req_p hz, wk (e := sumI e.Above e.Above.length + sumI e.Left e.Left.length) (by omega) (by omega), wk (e := sumI e.Above e.Above.length + sumI e.Left e.Left.length + ((e.Above.length : Int) + (e.Left.length : Int)) / 2) (by omega) (by omega)]
  congr 3; omega
theorem orGrey_eq (l : List Int) (hl : l.length = 0 ∨ l.length = 8) : ∃ g, impl_orGrey l = some g ∧ g.length = 8 ∧ ∀ k : Nat, k < 8 → spec_l13Filled l k = some (g.getD k 0) := by
 unfold impl_orGrey
 rcases hl with e | e
 ·
  refine ⟨_, sel_pos (by rw [e]; rfl), rfl, fun k hk => ?_⟩
  unfold spec_l13Filled
  rw [sel_pos (by rw [e]; rfl)]
  congr 1
  obtain rfl | rfl | rfl | rfl | rfl | rfl | rfl | rfl : k = 0 ∨ k = 1 ∨ k = 2 ∨ k = 3 ∨ k = 4 ∨ k = 5 ∨ k = 6 ∨ k = 7 := by omega
  all_goals rfl
 ·
  refine ⟨l, sel_neg (by rw [e]; rfl), e, fun k hk => ?_⟩
  unfold spec_l13Filled
  rw [sel_neg (by rw [e]; rfl), req_p (by omega), Int.toNat_natCast]
theorem brought_alike (n a b : Int) : impl_Brought n a b = spec_Brought n a b := by rw [impl_Brought_eq, spec_Brought_eq]
def guessAt (m mid v : Int) (A B : List Int) (i : Nat) : Int := sel (m == 0) mid (sel (m == 1) (A.getD (i % 8) 0) (sel (m == 2) (B.getD (i / 8) 0) (brought (wrapK .i64 (wrapK .i64 (B.getD (i / 8) 0 + A.getD (i % 8) 0) - v)) 0 255)))
theorem grid_loops {f1 : Int × List Int → Option (Lp (Int × List Int) (List Int))} {f2 : Int × List Int → Int × List Int → Option (Lp (Int × List Int) (List Int))} (g : Nat → Int)
  (h1 : ∀ v, f1 v = sel (decide (v.1 < 8)) (bnd (loop (f2 v) (0, v.2)) fun w => some (.go (wrapK .i64 (v.1 + 1), w))) (some (.done v.2)))
  (h2 : ∀ (r c : Nat) (a s : List Int), r < 8 → c < 8 → s.length = 8 * r + c → f2 ((r : Int), a) ((c : Int), s) = some (.go (((c + 1 : Nat) : Int), s ++ [g (8 * r + c)])))
  (h3 : ∀ (r : Nat) (a s : List Int), f2 ((r : Int), a) (8, s) = some (.done s)) : loop f1 (0, []) = some ((List.range 64).map g) := by
 obtain ⟨o, e, ho⟩ := st_loop (f := f1) 8 (fun r s => s = (List.range (8 * r)).map g) (by
  intro r s hr hs
  obtain ⟨q, eq, hq⟩ := st_loop2 (f := f2 ((r : Int), s)) 8 (fun c s' => s' = (List.range (8 * r + c)).map g) (by
   intro c s' hc hs'
   exact ⟨_, h2 r c s s' hr hc (by rw [hs']; simp), by rw [hs', show 8 * r + (c + 1) = (8 * r + c) + 1 by omega, List.range_succ, List.map_append]; rfl⟩) (fun z _ => h3 r s z) s hs
  rw [h1]
  refine ⟨q, ?_, by rw [hq, show 8 * (r + 1) = 8 * r + 8 by omega]⟩
  simp only
  rw [sel_yes (by omega), eq, bnd_s, wk (by omega) (by omega)]
  rfl) (by intro s; rw [h1, sel_no (by simp)]) [] rfl
 rw [e, ho]
theorem GuessOf_both (m : Int) (hm0 : 0 ≤ m ∧ m ≤ 3) {e : Edges} (h : edgesP e) : ∃ g, impl_GuessOf m e = some g ∧ spec_GuessOf m e = some g := by
 have hm : maxLen = 9223372036854775807 := rfl
 obtain ⟨mid, em, m1, m2⟩ := spec_l13Mid_ev h
 obtain ⟨A, eA, hA, fA⟩ := orGrey_eq e.Above h.1
 obtain ⟨B, eB, hB, fB⟩ := orGrey_eq e.Left h.2.1
 obtain ⟨v, ev⟩ : ∃ v, sel (decide (e.Corner < 0)) (some (128 : Int)) (some e.Corner) = some v := by rw [sel_ss]; exact ⟨_, rfl⟩
 refine ⟨(List.range 64).map (guessAt m mid v A B), ?_, ?_⟩
 ·
  unfold impl_GuessOf
  rw [EdgesOk_yes h, bnd_s, sel_t, impl_within_eq, bnd_s, decide_eq_true hm0, Bool.not_true, bnd_s, sel_f, mid_alike h, em, bnd_s, eA, bnd_s, eB, bnd_s, ev, bnd_s, grid_loops (f1 := impl_GuessOf_l12 m mid A B v) (f2 := impl_GuessOf_l14 m mid A B v) (guessAt m mid v A B) (fun _ => rfl) ?_ ?_, bnd_s]
  ·
   intro r c a s hr hc hs
   unfold impl_GuessOf_l14 guessAt
   simp only [Int.toNat_natCast, impl_Brought_eq, bnd_s]
   rw [sel_yes (by omega), wk (e := (c : Int) + 1) (by omega) (by omega), show (8 * r + c) % 8 = c by omega, show (8 * r + c) / 8 = r by omega]
   cases (m == 0) with
   | true => rw [sel_t, req_p (by simp only [List.length_singleton]; omega), bnd_s]; rfl
   | false =>
    rw [sel_f]
    cases (m == 1) with
    | true => rw [sel_t, req_p (by omega), req_p (by simp only [List.length_singleton]; omega), bnd_s]; rfl
    | false =>
     rw [sel_f]
     cases (m == 2) with
     | true => rw [sel_t, req_p (by omega), req_p (by simp only [List.length_singleton]; omega), bnd_s]; rfl
     | false => rw [sel_f, req_p (by omega), req_p (by omega), req_p (by simp only [List.length_singleton]; omega), bnd_s]; rfl
  ·
   intro r a s
   unfold impl_GuessOf_l14
   rw [sel_no (by simp)]
 ·
  unfold spec_GuessOf
  rw [spec_EdgesOk_yes h, bnd_s, sel_t, spec_l01In_eq, bnd_s, decide_eq_true hm0, Bool.not_true, bnd_s, sel_f, ev, bnd_s]
  obtain ⟨o, eo, ho⟩ := st_loop (f := spec_GuessOf_l2 m e v) 64 (fun i s => s = (List.range i).map (guessAt m mid v A B)) (by
   intro i s hi hs
   have hlen : s.length = i := by rw [hs]; simp
   refine ⟨s ++ [guessAt m mid v A B i], ?_, by rw [hs, List.range_succ, List.map_append]; rfl⟩
   unfold spec_GuessOf_l2 guessAt
   simp only
   rw [sel_yes (by omega), req_p (by omega), tmod_pos (by omega), show (i : Int) % 8 = ((i % 8 : Nat) : Int) by omega, fA _ (by omega), bnd_s, req_p (by omega), tdiv_pos (by omega), wk (e := (i : Int) / 8) (by omega) (by omega), show (i : Int) / 8 = ((i / 8 : Nat) : Int) by omega, fB _ (by omega), bnd_s, wk (e := (i : Int) + 1) (by omega) (by omega), em]
   cases (m == 0) with
   | true => rw [sel_t, bnd_s, req_p (by simp only [List.length_singleton]; omega), bnd_s]; rfl
   | false =>
    rw [sel_f]
    cases (m == 1) with
    | true => rw [sel_t, req_p (by simp only [List.length_singleton]; omega), bnd_s]; rfl
    | false =>
     rw [sel_f]
     cases (m == 2) with
     | true => rw [sel_t, req_p (by simp only [List.length_singleton]; omega), bnd_s]; rfl
     | false => rw [sel_f, spec_Brought_eq, bnd_s, req_p (by simp only [List.length_singleton]; omega), bnd_s]; rfl) (by intro s; unfold spec_GuessOf_l2; rw [sel_no (by simp)]) [] rfl
  rw [eo, bnd_s, ho]
theorem GuessOf_alike (m : Int) (hm0 : 0 ≤ m ∧ m ≤ 3) {e : Edges} (h : edgesP e) : impl_GuessOf m e = spec_GuessOf m e := by
 obtain ⟨g, h1, h2⟩ := GuessOf_both m hm0 h
 rw [h1, h2]
theorem Joined_alike (g b : List Int) (hg : dots64 g = true) (hl : b.length = 64) (hb : inB 10000000 b) : impl_Joined g b = spec_Joined g b := by
 obtain ⟨g1, g2⟩ := dots64_at hg
 unfold impl_Joined spec_Joined
 rw [spec_l13Dots_yes g hg, impl_areDots_eq g (by omega), hg, areIn_yes b 64 10000000 (by omega) (by omega) hb, l09All_yes b 64 10000000 (by omega) (by omega) (by omega) hb]
 have : impl_Joined_l2 g b = spec_Joined_l2 g b := by
  funext v
  unfold impl_Joined_l2 spec_Joined_l2
  simp only [brought_alike, show ((g.length : Nat) : Int) = 64 by omega]
 simp only [bnd_s, sel_t, Bool.not_true, sel_f, this]
theorem sqOk_zero {s : Square} (h : sqOk s = true) (h1 : s.Kind = 0) : s.Dx = 0 ∧ s.Dy = 0 := by
 unfold sqOk at h
 rw [h1] at h
 simp at h
 exact ⟨h.2.1, h.2.2.1⟩
theorem sqOk_dxy {s : Square} (h : sqOk s = true) : (-16 ≤ s.Dx ∧ s.Dx ≤ 16) ∧ (-16 ≤ s.Dy ∧ s.Dy ≤ 16) := by
 have hk := sqOk_kind h
 obtain h1 | h1 | h1 : s.Kind = 0 ∨ s.Kind = 1 ∨ s.Kind = 2 := by omega
 ·
  obtain ⟨a, b⟩ := sqOk_zero h h1; omega
 ·
  obtain ⟨a, b, _⟩ := sqOk_one h h1; exact ⟨a, b⟩
 ·
  unfold sqOk at h
  rw [h1] at h
  simp at h
  omega
theorem impl_let_eq (s : Square) (c : Cond) : impl_Square_let s c = some (sqLet s c) := by
 unfold impl_Square_let sqLet
 cases c.Key <;> rfl
structure SdIn (now ref : Pic) (l t x y : Int) (c : Cond) (q : Square) : Prop where
 ok : picOk now = true
 hx : x.tmod 8 = 0
 hy : y.tmod 8 = 0
 h0 : heldAt now x y = true
 hl : 0 ≤ l ∧ l ≤ 256
 ht : 0 ≤ t ∧ t ≤ 256
 hc : condOk c = true
 hs : q.Levels.length ≤ 1048576
theorem SquareDots_both {now ref : Pic} {l t x y : Int} {c : Cond} {q : Square} (h : SdIn now ref l t x y c q) (hq : sqOk q = true) (hL : sqLet q c = true) (hr : c.Key = false → picOk ref = true) : ∃ d, impl_SquareDots now ref l t c x y q = some (d, true) ∧ spec_SquareDots now ref l t c x y q = some (d, true) ∧ dots64 d = true := by
 obtain ⟨ok, hx, hy, h0, hl, ht, hc, hs⟩ := h
 obtain ⟨k1, k2, k3⟩ := picOk_parts ok
 have h0' := h0
 unfold heldAt at h0'
 rw [decide_eq_true_eq] at h0'
 have dxy := sqOk_dxy hq
 unfold spec_SquareDots impl_SquareDots
 rw [spec_l13Fits_yes ok hx hy h0, bnd_s, sel_t, spec_l01In_eq, bnd_s, decide_eq_true hl, sel_t, spec_l01In_eq, bnd_s, decide_eq_true ht, sel_t, spec_SquareOk_eq, bnd_s, hq, sel_t, spec_CondOk_eq, bnd_s, hc, Bool.not_true, bnd_s, sel_f]
 rw [impl_PicOk_eq, bnd_s, ok, sel_t, isSquare_yes ok hx hy h0, bnd_s, sel_t, impl_within_eq, bnd_s, decide_eq_true hl, sel_t, impl_within_eq, bnd_s, decide_eq_true ht, sel_t, impl_SquareOk_eq q (by omega), bnd_s, hq, sel_t, impl_CondOk_eq, bnd_s, hc, sel_t, impl_let_eq, bnd_s, hL, sel_t]
 by_cases h2 : q.Kind = 2
 ·
  obtain ⟨hm, hlv⟩ := sqOk_two hq h2
  obtain ⟨e, ee, he⟩ := spec_EdgesOf_ev ok hx hy h0
  obtain ⟨b, eb, b1, b2⟩ := spec_LevelsBack_ev q.Levels c hc hlv
  obtain ⟨g, eg, hg⟩ := spec_GuessOf_ev q.Mode hm he
  obtain ⟨j, ej, hj⟩ := spec_Joined_ev g b hg b1 b2
  refine ⟨j, ?_, ?_, hj⟩
  ·
   rw [sel_neg (b := q.Kind != 2) (by simpa using h2), bnd_s, sel_f, sel_neg (by rw [h2]; rfl), LevelsBack_alike q.Levels c hc hlv, eb, bnd_s, sel_neg (by rw [h2]; rfl), EdgesOf_alike ok hx hy h0, ee, bnd_s, GuessOf_alike q.Mode hm he, eg, bnd_s, Joined_alike g b hg b1 b2, ej, bnd_s]
  ·
   rw [sel_pos (by simpa using h2), ee, bnd_s, eb, bnd_s, eg, bnd_s, ej, bnd_s]
 ·
  have hK : c.Key = false := by
   unfold sqLet at hL
   cases hk : c.Key with
   | false => rfl
   | true => rw [hk] at hL; simp at hL; exact absurd hL h2
  have rok := hr hK
  rw [sel_pos (b := q.Kind != 2) (by simpa using h2), impl_PicOk_eq, bnd_s, rok, Bool.not_true, bnd_s, sel_f]
  rw [sel_neg (b := q.Kind == 2) (by simpa using h2), hK, sel_f, spec_PicOk_eq, bnd_s, rok, Bool.not_true, bnd_s, sel_f]
  rw [wk (e := l + x) (by omega) (by omega), wk (e := l + x + q.Dx) (by omega) (by omega), wk (e := t + y) (by omega) (by omega), wk (e := t + y + q.Dy) (by omega) (by omega), spec_BlockOf_eq rok _ _ (by omega) (by omega), bnd_s, impl_block_eq rok _ _ (by omega) (by omega), bnd_s, impl_block_eq rok _ _ (by omega) (by omega)]
  by_cases h3 : q.Kind = 0
  ·
   obtain ⟨z1, z2⟩ := sqOk_zero hq h3
   rw [sel_pos (b := q.Kind == 0) (by simpa using h3), sel_pos (b := q.Kind == 0) (by simpa using h3), z1, z2, Int.add_zero, Int.add_zero]
   exact ⟨_, rfl, rfl, blkL_dots _ _ _⟩
  ·
   have h1 : q.Kind = 1 := by have := sqOk_kind hq; omega
   obtain ⟨_, _, hlv⟩ := sqOk_one hq h1
   obtain ⟨b, eb, b1, b2⟩ := spec_LevelsBack_ev q.Levels c hc hlv
   obtain ⟨j, ej, hj⟩ := spec_Joined_ev _ b (blkL_dots ref (l + x + q.Dx) (t + y + q.Dy)) b1 b2
   rw [sel_neg (b := q.Kind == 0) (by simpa using h3), sel_neg (b := q.Kind == 0) (by simpa using h3), LevelsBack_alike q.Levels c hc hlv, eb, bnd_s, bnd_s, sel_pos (b := q.Kind == 1) (by simpa using h1), bnd_s, Joined_alike _ b (blkL_dots _ _ _) b1 b2, ej, bnd_s]
   exact ⟨_, rfl, rfl, hj⟩
theorem spec_l13Dots_eq (l : List Int) : spec_l13Dots l = some (dots64 l) := by
 unfold spec_l13Dots dots64
 by_cases h : l.length = 64
 ·
  rw [sel_neg (by simp only [bne_eq_false_iff_eq]; omega), all_loop dotIn l (spec_l13Dots_l2 l) (by
   intro i hi
   unfold spec_l13Dots_l2
   rw [sel_yes (by omega), req_p (by omega), spec_l01In_eq, bnd_s, wk (by omega) (by omega), Int.toNat_natCast]
   rfl) (by unfold spec_l13Dots_l2; rw [sel_no (by omega)]), bnd_s, decide_eq_true h, Bool.true_and]
  cases l.all dotIn <;> rfl
 ·
  rw [sel_pos (by simp only [bne_iff_ne, ne_eq]; omega), decide_eq_false h, Bool.false_and]
def sqFits (p : Pic) (x y : Int) : Bool := picOk p && (decide (x.tmod 8 = 0) && (decide (y.tmod 8 = 0) && heldAt p x y))
theorem spec_l13Fits_eq (p : Pic) (x y : Int) : spec_l13Fits p x y = some (sqFits p x y) := by
 unfold sqFits
 cases ok : picOk p with
 | true =>
  unfold spec_l13Fits
  rw [req_p (by omega), req_p (by omega), spec_l12Within_8 ok, bnd_s]
  simp only [beq_dec, sel_and, bnd_s, Bool.true_and]
 | false =>
  unfold spec_l13Fits spec_l12Within
  rw [req_p (by omega), req_p (by omega), spec_PicOk_eq, bnd_s, ok]
  simp only [sel_f, bnd_s, Bool.false_and, sel_same]
theorem impl_isSquare_all {p : Pic} (ok : picOk p = true) (x y : Int) : impl_Pic_isSquare p x y = some (sqFits p x y) := by
 obtain ⟨k1, k2, k3⟩ := picOk_parts ok
 unfold impl_Pic_isSquare sqFits
 rw [ok, req_p (by omega), req_p (by omega), impl_within_eq, bnd_s, impl_within_eq, bnd_s, wk (e := p.Wide - 8) (by omega) (by omega), wk (e := p.High - 8) (by omega) (by omega)]
 simp only [beq_dec, sel_and, bnd_s, Bool.true_and]
 unfold heldAt
 have : (decide (0 ≤ x ∧ x ≤ p.Wide - 8) && decide (0 ≤ y ∧ y ≤ p.High - 8)) = decide (0 ≤ x ∧ x ≤ p.Wide - 8 ∧ 0 ≤ y ∧ y ≤ p.High - 8) := by
  rw [Bool.eq_iff_iff]; simp only [Bool.and_eq_true, decide_eq_true_eq]; omega
 rw [this]
theorem ue_small (m : Int) (h : 0 ≤ m ∧ m ≤ 3) : ∃ s, impl_UeSize m = some s ∧ spec_UeSize m = some s := by
 have e1 : spec_UeSize m = some (((strOfNums (ueL m.toNat)).size : Nat) : Int) := by
  unfold spec_UeSize spec_UeRow
  rw [spec_l01In_eq, bnd_s, decide_eq_true (by omega), Bool.not_true, sel_f]
  have : spec_l03Ue m = some (strOfNums (ueL m.toNat)) := by
   have := spec_l03Ue_eq m.toNat (by omega)
   rwa [show ((m.toNat : Nat) : Int) = m by omega] at this
  rw [this, bnd_s, bnd_s]
 have e2 : impl_UeSize m = some (((strOfNums (ueL m.toNat)).size : Nat) : Int) := by
  unfold impl_UeSize impl_UeRow
  rw [impl_within_eq, bnd_s, decide_eq_true (by omega), Bool.not_true, sel_f]
  have : impl_ue m = some (strOfNums (ueL m.toNat)) := by
   have := impl_ue_eq m.toNat (by omega)
   rwa [show ((m.toNat : Nat) : Int) = m by omega] at this
  rw [this, bnd_s, bnd_s]
 exact ⟨_, e2, e1⟩
theorem BestGuess_alike {w : List Int} (hw : dots64 w = true) {e : Edges} (h : edgesP e) : impl_BestGuess w e = spec_BestGuess w e := by
 have hwl := (dots64_at hw).1
 unfold impl_BestGuess spec_BestGuess
 rw [EdgesOk_yes h, spec_EdgesOk_yes h, impl_areDots_eq w (by omega), spec_l13Dots_eq, hw]
 have : loop (impl_BestGuess_l2 w e) (0, -1, 0) = loop (spec_BestGuess_l2 w e) (0, -1, 0) := by
  refine loop_congr (fun v => 0 ≤ v.2.2 ∧ v.2.2 ≤ 4) ?_ ?_ (by simp)
  ·
   intro ⟨m, c, i⟩ ⟨h1, h2⟩
   simp only at h1 h2
   unfold impl_BestGuess_l2 spec_BestGuess_l2
   simp only
   by_cases hi : i < 4
   ·
    obtain ⟨g, eg, hg⟩ := spec_GuessOf_ev i ⟨h1, by omega⟩ h
    obtain ⟨s, e1, e2⟩ := ue_small i ⟨h1, by omega⟩
    rw [sel_yes (show i ≤ 3 by omega), sel_yes hi, GuessOf_alike i ⟨h1, by omega⟩ h, eg, bnd_s, bnd_s, impl_gap_eq hw hg, spec_GapOf_eq hw hg, bnd_s, bnd_s, e1, e2]
   ·
    rw [sel_no (show ¬ i ≤ 3 by omega), sel_no hi]
  ·
   intro ⟨m, c, i⟩ v' ⟨h1, h2⟩ he
   simp only at h1 h2
   unfold spec_BestGuess_l2 at he
   rcases sel_some he with ⟨hb, he⟩ | ⟨_, he⟩
   ·
    have hi := of_decide_eq_true hb
    simp only at hi
    obtain ⟨q, _, he⟩ := bnd_some he
    injection he with he
    injection he with he
    subst he
    simp only
    rw [wk (by omega) (by omega)]; omega
   ·
    cases he
 simp only [bnd_s, sel_t, Bool.not_true, sel_f, this]
theorem BestMove_alike {p : Pic} {w : List Int} {x y r : Int} (ok : picOk p = true) (hw : dots64 w = true) (hr : 0 ≤ r ∧ r ≤ 4) (hx : x.tmod 8 = 0) (hy : y.tmod 8 = 0) (h0 : heldAt p x y = true) : impl_BestMove p w x y r = spec_BestMove p w x y r := by
 obtain ⟨k1, k2, k3⟩ := picOk_parts ok
 have hwl := (dots64_at hw).1
 have h0' := h0
 unfold heldAt at h0'
 rw [decide_eq_true_eq] at h0'
 unfold impl_BestMove spec_BestMove
 rw [impl_PicOk_eq, bnd_s, ok, sel_t, impl_areDots_eq w (by omega), bnd_s, hw, sel_t, impl_within_eq, bnd_s, decide_eq_true hr, sel_t, impl_isSquare_eq ok x y hx hy h0, bnd_s, Bool.not_true, bnd_s, sel_f]
 rw [spec_l13Dots_yes w hw, bnd_s, sel_t, spec_l01In_eq, bnd_s, decide_eq_true hr, sel_t, spec_l13Fits_yes ok hx hy h0, bnd_s, Bool.not_true, bnd_s, sel_f, wk (e := 0 - r) (by omega) (by omega)]
 refine bnd_c ?_ fun _ _ => rfl
 refine loop_congr (fun s => -r ≤ s.2.2.2 ∧ s.2.2.2 ≤ r + 1) ?_ ?_ (by simp only; omega)
 ·
  intro s ⟨g1, g2⟩
  unfold impl_BestMove_l12 spec_BestMove_l12
  refine sel_c (fun hs => ?_) fun _ => rfl
  have hs := of_decide_eq_true hs
  rw [wk (e := 0 - r) (by omega) (by omega)]
  refine bnd_c ?_ fun _ _ => rfl
  refine loop_congr (fun v => -r ≤ v.2.2.2 ∧ v.2.2.2 ≤ r + 1) ?_ ?_ (by simp only; omega)
  ·
   intro v ⟨f1, f2⟩
   unfold impl_BestMove_l14 spec_BestMove_l14
   refine sel_c (fun hv => ?_) fun _ => rfl
   have hv := of_decide_eq_true hv
   rw [wk (e := x + v.2.2.2) (by omega) (by omega), wk (e := y + s.2.2.2) (by omega) (by omega), impl_holds_8 ok, spec_l12Within_8 ok, bnd_s, bnd_s]
   refine bnd_c ?_ fun _ _ => rfl
   refine sel_c (fun _ => rfl) fun _ => ?_
   have hb := blkL_dots p (x + v.2.2.2) (y + s.2.2.2)
   rw [spec_BlockOf_eq ok _ _ (by omega) (by omega), impl_block_eq ok _ _ (by omega) (by omega), bnd_s, bnd_s, spec_GapOf_eq hw hb, impl_gap_eq hw hb, bnd_s, bnd_s, spec_SeSize_ev _ (by omega), impl_SeSize_eq _ (by omega), bnd_s, bnd_s, spec_SeSize_ev _ (by omega), impl_SeSize_eq _ (by omega), bnd_s]
  ·
   intro v v' ⟨f1, f2⟩ he
   unfold spec_BestMove_l14 at he
   rcases sel_some he with ⟨hb, he⟩ | ⟨_, he⟩
   ·
    have hi := of_decide_eq_true hb
    obtain ⟨q, _, he⟩ := bnd_some he
    injection he with he
    injection he with he
    subst he
    simp only
    rw [wk (by omega) (by omega)]; omega
   ·
    cases he
 ·
  intro s v' ⟨g1, g2⟩ he
  unfold spec_BestMove_l12 at he
  rcases sel_some he with ⟨hb, he⟩ | ⟨_, he⟩
  ·
   have hi := of_decide_eq_true hb
   obtain ⟨q, _, he⟩ := bnd_some he
   injection he with he
   injection he with he
   subst he
   simp only
   rw [wk (by omega) (by omega)]; omega
  ·
   cases he
def lessL (a b : List Int) : List Int := (List.range 64).map fun i => a.getD i 0 - b.getD i 0
theorem lessL_len (a b : List Int) : (lessL a b).length = 64 := by simp [lessL]
theorem lessL_at (a b : List Int) {i : Nat} (hi : i < 64) : (lessL a b).getD i 0 = a.getD i 0 - b.getD i 0 := getD_map _ hi
theorem lessL_in {a b : List Int} (ha : dots64 a = true) (hb : dots64 b = true) : inB 255 (lessL a b) := by
 intro x hx
 obtain ⟨i, hi, rfl⟩ := List.mem_map.1 hx
 rw [List.mem_range] at hi
 have p := (dots64_at ha).2 i hi
 have q := (dots64_at hb).2 i hi
 omega
theorem less_loop {a b : List Int} (ha : dots64 a = true) (hb : dots64 b = true) {f : Int × List Int → Option (Lp (Int × List Int) (List Int))} (hf : ∀ v, f v = sel (decide (v.1 < 64)) (req (0 ≤ v.1 ∧ v.1 < a.length) <| req (0 ≤ v.1 ∧ v.1 < b.length) <| req ((v.2.length + ([wrapK .i64 ((a.getD v.1.toNat 0) - (b.getD v.1.toNat 0))]).length) * 8 ≤ 140737488355328 ∧ v.2.length + ([wrapK .i64 ((a.getD v.1.toNat 0) - (b.getD v.1.toNat 0))]).length ≤ maxLen) <| some (.go (wrapK .i64 (v.1 + 1), (v.2 ++ ([wrapK .i64 ((a.getD v.1.toNat 0) - (b.getD v.1.toNat 0))]))))) (some (.done v.2))) : loop f (0, []) = some (lessL a b) := by
 have hm : maxLen = 9223372036854775807 := rfl
 obtain ⟨a1, a2⟩ := dots64_at ha
 obtain ⟨b1, b2⟩ := dots64_at hb
 have := app_loop (f := f) 64 (fun i => a.getD i 0 - b.getD i 0) [] (by
  intro i hi
  have x := a2 i hi
  have y := b2 i hi
  rw [hf]
  simp only [Int.toNat_natCast]
  rw [sel_yes (by omega), req_p (by omega), req_p (by omega), req_p (by simp only [List.length_append, List.length_nil, List.length_map, List.length_range, List.length_singleton]; omega), wk (e := a.getD i 0 - b.getD i 0) (by omega) (by omega), wk (e := (i : Int) + 1) (by omega) (by omega)]
  rfl) (by rw [hf, sel_no (by simp)])
 rw [List.nil_append] at this
 exact this
theorem impl_lessened_eq {a b : List Int} (ha : dots64 a = true) (hb : dots64 b = true) : impl_lessened a b = some (lessL a b) := by
 have a1 := (dots64_at ha).1
 unfold impl_lessened
 rw [less_loop ha hb (f := impl_lessened_l2 a b) (fun v => by unfold impl_lessened_l2; rw [show ((a.length : Nat) : Int) = 64 by omega]), bnd_s]
theorem spec_l17Less_eq {a b : List Int} (ha : dots64 a = true) (hb : dots64 b = true) : spec_l17Less a b = some (lessL a b) := by
 have a1 := (dots64_at ha).1
 unfold spec_l17Less
 rw [less_loop ha hb (f := spec_l17Less_l2 a b) (fun v => by unfold spec_l17Less_l2; rw [show ((a.length : Nat) : Int) = 64 by omega]), bnd_s]
theorem spec_l17Zero_eq (l : List Int) (hl : l.length ≤ 1000000) : spec_l17Zero l = some (l.all fun x => x == 0) := by
 unfold spec_l17Zero
 rw [all_loop (fun x => x == 0) l (spec_l17Zero_l2 l) (by
  intro i hi
  unfold spec_l17Zero_l2
  rw [sel_yes (by omega), req_p (by omega), Int.toNat_natCast, wk (by omega) (by omega)]
  rfl) (by unfold spec_l17Zero_l2; rw [sel_no (by omega)]), bnd_s]
 cases l.all (fun x => x == 0) <;> rfl
theorem gap_zero {a b : List Int} (ha : dots64 a = true) (hb : dots64 b = true) : (gapTo a b 64 == 0) = ((lessL a b).all fun x => x == 0) := by
 have key : ∀ n : Nat, n ≤ 64 → (gapTo a b n = 0 ↔ ∀ i, i < n → a.getD i 0 - b.getD i 0 = 0) := by
  intro n
  induction n with
  | zero => intro _; exact ⟨fun _ i hi => by omega, fun _ => rfl⟩
  | succ n ih =>
   intro hn
   have g := gapTo_bounds ha hb n (by omega)
   have e : gapTo a b (n + 1) = gapTo a b n + absI (a.getD n 0 - b.getD n 0) := rfl
   have ab : 0 ≤ absI (a.getD n 0 - b.getD n 0) ∧ (absI (a.getD n 0 - b.getD n 0) = 0 ↔ a.getD n 0 - b.getD n 0 = 0) := by unfold absI; split <;> omega
   rw [e]
   constructor
   ·
    intro h i hi
    rcases Nat.lt_or_ge i n with h1 | h1
    ·
     exact (ih (by omega)).1 (by omega) i h1
    ·
     have : i = n := by omega
     subst this
     exact ab.2.1 (by omega)
   ·
    intro h
    have h1 := (ih (by omega)).2 fun i hi => h i (by omega)
    have h2 := ab.2.2 (h n (by omega))
    omega
 rw [Bool.eq_iff_iff, beq_iff_eq, List.all_eq_true, key 64 (by omega)]
 constructor
 ·
  intro h x hx
  obtain ⟨i, hi, rfl⟩ := List.mem_map.1 hx
  rw [List.mem_range] at hi
  rw [beq_iff_eq]; exact h i hi
 ·
  intro h i hi
  have := h ((lessL a b).getD i 0) (by rw [getD_at _ i (by rw [lessL_len]; exact hi)]; exact List.getElem_mem _)
  rw [beq_iff_eq, lessL_at a b hi] at this
  exact this
theorem areZero_eq (l : List Int) (hl : l.length = 64) : impl_areIn l 64 0 0 = some (l.all fun x => x == 0) := by
 rw [impl_areIn_eq l 64 0 0 (by omega), show ((l.length : Int) == 64) = true by rw [beq_iff_eq]; omega, Bool.and_true]
 congr 2
 funext x
 rw [Bool.eq_iff_iff, decide_eq_true_eq, beq_iff_eq]; omega
structure SfIn (now ref : Pic) (w : List Int) (x y : Int) (c : Cond) (r : Int) : Prop where
 ok : picOk now = true
 hx : x.tmod 8 = 0
 hy : y.tmod 8 = 0
 h0 : heldAt now x y = true
 hw : dots64 w = true
 hc : condOk c = true
 hr : 0 ≤ r ∧ r ≤ 4
 hk : c.Key = false → picOk ref = true ∧ ref.Wide = now.Wide ∧ ref.High = now.High
inductive Chosen (now ref : Pic) (w : List Int) (x y : Int) (c : Cond) (r : Int) : Square → Prop
 | same (hK : c.Key = false) (h : ∀ i : Nat, i < 64 → w.getD i 0 = (blkL ref x y 64).getD i 0) : Chosen now ref w x y c r ⟨0, 0, 0, 0, []⟩
 | still (hK : c.Key = false) (l : List Int) (h : spec_LevelsOf (lessL w (blkL ref x y 64)) c = some (l, true)) (hl : lv64 l = true) (hz : ∀ i : Nat, i < 64 → l.getD i 0 = 0) : Chosen now ref w x y c r ⟨0, 0, 0, 0, []⟩
 | move (hK : c.Key = false) (dx dy : Int) (hdx : -r ≤ dx ∧ dx ≤ r) (hdy : -r ≤ dy ∧ dy ≤ r) (hh : heldAt ref (x + dx) (y + dy) = true) (l : List Int) (h : spec_LevelsOf (lessL w (blkL ref (x + dx) (y + dy) 64)) c = some (l, true)) (hl : lv64 l = true) (hn : ¬ ∀ i : Nat, i < 64 → w.getD i 0 = (blkL ref x y 64).getD i 0) : Chosen now ref w x y c r ⟨1, 0, dx, dy, l⟩
 | guess (e : Edges) (he : spec_EdgesOf now x y = some (e, true)) (hp : edgesP e) (m : Int) (hm : 0 ≤ m ∧ m ≤ 3) (g : List Int) (hg : spec_GuessOf m e = some g) (hd : dots64 g = true) (l : List Int) (h : spec_LevelsOf (lessL w g) c = some (l, true)) (hl : lv64 l = true) (hn : c.Key = false → ¬ ∀ i : Nat, i < 64 → w.getD i 0 = (blkL ref x y 64).getD i 0) : Chosen now ref w x y c r ⟨2, m, 0, 0, l⟩
theorem Chosen.ok {now ref : Pic} {w : List Int} {x y : Int} {c : Cond} {r : Int} {q : Square} (hr : 0 ≤ r ∧ r ≤ 4) (h : Chosen now ref w x y c r q) : sqOk q = true ∧ sqLet q c = true ∧ q.Levels.length ≤ 64 := by
 cases h with
 | same hK _ => exact ⟨rfl, by unfold sqLet; rw [hK]; rfl, by simp⟩
 | still hK l _ _ _ => exact ⟨rfl, by unfold sqLet; rw [hK]; rfl, by simp⟩
 | move hK dx dy hdx hdy hh l h hl hn => exact ⟨sqOk_move (by omega) (by omega) hl, by unfold sqLet; rw [hK]; rfl, by simp only; have := (lv64_in hl).1; omega⟩
 | guess e he hp m hm g hg hd l h hl hn => exact ⟨sqOk_guess hm hl, by unfold sqLet; simp, by simp only; have := (lv64_in hl).1; omega⟩
theorem zero_all {l : List Int} (hl : l.length = 64) : (l.all fun x => x == 0) = true ↔ ∀ i : Nat, i < 64 → l.getD i 0 = 0 := by
 rw [List.all_eq_true]
 constructor
 ·
  intro h i hi
  have := h (l.getD i 0) (by rw [getD_at l i (by omega)]; exact List.getElem_mem _)
  rwa [beq_iff_eq] at this
 ·
  intro h x hx
  obtain ⟨i, hi, rfl⟩ := List.getElem_of_mem hx
  rw [beq_iff_eq, ← getD_at l i hi 0]
  exact h i (by omega)
theorem BestMove_both {p : Pic} {w : List Int} {x y r : Int} (ok : picOk p = true) (hw : dots64 w = true) (hr : 0 ≤ r ∧ r ≤ 4) (hx : x.tmod 8 = 0) (hy : y.tmod 8 = 0) (h0 : heldAt p x y = true) :
  ∃ b, impl_BestMove p w x y r = some b ∧ spec_BestMove p w x y r = some b ∧ (-r ≤ b.1 ∧ b.1 ≤ r) ∧ (-r ≤ b.2.1 ∧ b.2.1 ≤ r) ∧ heldAt p (x + b.1) (y + b.2.1) = true := by
 obtain ⟨b, e, h1, h2, h3, _⟩ := impl_BestMove_ev ok hw hr hx hy h0
 exact ⟨b, e, by rw [← BestMove_alike ok hw hr hx hy h0]; exact e, h1, h2, h3⟩
theorem SquareFor_yes {now ref : Pic} {w : List Int} {x y : Int} {c : Cond} {r : Int} (H : SfIn now ref w x y c r) : ∃ q d, impl_SquareFor now ref w x y c r = some (q, d, true) ∧ spec_SquareFor now ref w x y c r = some (q, d, true) ∧ Chosen now ref w x y c r q ∧ impl_SquareDots now ref 0 0 c x y q = some (d, true) ∧ dots64 d = true := by
 obtain ⟨ok, hx, hy, h0, hw, hc, hr, hk⟩ := H
 have hwl := (dots64_at hw).1
 obtain ⟨e, ee, he⟩ := spec_EdgesOf_ev ok hx hy h0
 obtain ⟨m, co, eb, hm⟩ := spec_BestGuess_ev hw he
 obtain ⟨g, eg, hg⟩ := spec_GuessOf_ev m hm he
 obtain ⟨l, el, hl⟩ := spec_LevelsOf_ev (lessL w g) c hc (lessL_len w g) (lessL_in hw hg)
 have hh := h0
 unfold heldAt at hh
 rw [decide_eq_true_eq] at hh
 obtain ⟨k1, k2, k3⟩ := picOk_parts ok
 -- the square
 have main : ∃ q, Chosen now ref w x y c r q ∧ spec_l17Square now ref w x y c r = some q ∧
   (sel (!c.Key) (bnd (impl_Pic_block ref x y) fun q15 => bnd (impl_gap w q15) fun q16 => sel (q16 == 0) (some ((0 : Int), (0 : Int), (0 : Int), (0 : Int), ([] : List Int))) (bnd (impl_BestMove ref w x y r) fun q17 => sel (decide (q17.2.2 ≤ co)) (bnd (impl_Pic_block ref (wrapK .i64 (x + q17.1)) (wrapK .i64 (y + q17.2.1))) fun q18 => bnd (impl_lessened w q18) fun q19 => bnd (impl_LevelsOf q19 c) fun q20 =>
    bnd (sel (q17.1 == 0) (sel (q17.2.1 == 0) (bnd (impl_areIn q20.1 64 0 0) fun q22 => some q22) (some false)) (some false)) fun v21 => sel v21 (some (0, 0, 0, 0, [])) (some (1, 0, q17.1, q17.2.1, q20.1))) (some (2, m, 0, 0, l)))) (some (2, m, 0, 0, l))) = some (q.Kind, q.Mode, q.Dx, q.Dy, q.Levels) := by
  unfold spec_l17Square
  cases hK : c.Key with
  | true =>
   refine ⟨⟨2, m, 0, 0, l⟩, .guess e ee he m hm g eg hg l el hl (fun h => by rw [hK] at h; cases h), ?_, rfl⟩
   rw [sel_t, bnd_s, sel_f, ee, bnd_s, eb, bnd_s, Bool.not_true]
   simp only [joinK, sel_f, eg, bnd_s, spec_l17Less_eq hw hg, el]
  | false =>
   obtain ⟨rok, rw', rh⟩ := hk hK
   have hb := blkL_dots ref x y
   have r0 : heldAt ref x y = true := by unfold heldAt; rw [decide_eq_true_eq, rw', rh]; exact hh
   have gz := gap_zero hw hb
   have lz := zero_all (lessL_len w (blkL ref x y 64))
   rw [Bool.not_false, sel_t, sel_f, impl_block_eq rok x y (by omega) (by omega), bnd_s, impl_gap_eq hw hb, bnd_s, spec_BlockOf_eq rok x y (by omega) (by omega), bnd_s, spec_l17Less_eq hw hb, bnd_s, spec_l17Zero_eq _ (by rw [lessL_len]; omega), bnd_s, bnd_s, gz]
   cases hz : ((lessL w (blkL ref x y 64)).all fun x => x == 0) with
   | true =>
    refine ⟨⟨0, 0, 0, 0, []⟩, .same hK fun i hi => ?_, rfl, rfl⟩
    have := lz.1 hz i hi
    rw [lessL_at _ _ hi] at this; omega
   | false =>
    have hne : ¬ ∀ i : Nat, i < 64 → w.getD i 0 = (blkL ref x y 64).getD i 0 := fun hall => by
     have := lz.2 fun i hi => by rw [lessL_at _ _ hi, hall i hi]; omega
     rw [hz] at this; cases this
    obtain ⟨b, bi, bs, b1, b2, b3⟩ := BestMove_both rok hw hr hx hy r0
    rw [sel_f, sel_f, ee, bnd_s, eb, bnd_s, bi, bnd_s]
    simp only [joinK, sel_t, bs, bnd_s]
    by_cases hco : b.2.2 ≤ co
    ·
     have hb2 := blkL_dots ref (x + b.1) (y + b.2.1)
     obtain ⟨l2, el2, hl2⟩ := spec_LevelsOf_ev (lessL w (blkL ref (x + b.1) (y + b.2.1) 64)) c hc (lessL_len _ _) (lessL_in hw hb2)
     have hl2n := (lv64_in hl2).1
     rw [sel_yes hco, sel_yes hco, wk (e := x + b.1) (by omega) (by omega), wk (e := y + b.2.1) (by omega) (by omega), spec_BlockOf_eq rok _ _ (by omega) (by omega), impl_block_eq rok _ _ (by omega) (by omega), bnd_s, bnd_s, impl_lessened_eq hw hb2, spec_l17Less_eq hw hb2, bnd_s, bnd_s, LevelsOf_alike _ c hc (lessL_len _ _) (lessL_in hw hb2), el2, bnd_s, bnd_s, areZero_eq l2 hl2n, bnd_s, spec_l17Zero_eq l2 (by omega), bnd_s]
     simp only [sel_and, bnd_s]
     cases hst : (b.1 == 0 && (b.2.1 == 0 && l2.all fun x => x == 0)) with
     | true =>
      simp only [Bool.and_eq_true, beq_iff_eq] at hst
      obtain ⟨z1, z2, z3⟩ := hst
      rw [z1, z2, Int.add_zero, Int.add_zero] at el2
      exact ⟨⟨0, 0, 0, 0, []⟩, .still hK l2 el2 hl2 ((zero_all hl2n).1 z3), rfl, rfl⟩
     | false => exact ⟨⟨1, 0, b.1, b.2.1, l2⟩, .move hK b.1 b.2.1 b1 b2 b3 l2 el2 hl2 hne, rfl, rfl⟩
    ·
     rw [sel_no hco, sel_no hco]
     refine ⟨⟨2, m, 0, 0, l⟩, .guess e ee he m hm g eg hg l el hl (fun _ => hne), ?_, rfl⟩
     simp only [eg, bnd_s, spec_l17Less_eq hw hg, el]
 obtain ⟨q, hq, es, ei⟩ := main
 obtain ⟨q1, q2, q3⟩ := hq.ok hr
 obtain ⟨d, di, ds, hd⟩ := SquareDots_both (now := now) (ref := ref) (l := 0) (t := 0) (x := x) (y := y) (c := c) (q := q) ⟨ok, hx, hy, h0, by omega, by omega, hc, by omega⟩ q1 q2 (fun h => (hk h).1)
 refine ⟨q, d, ?_, ?_, hq, di, hd⟩
 ·
  unfold impl_SquareFor
  have hl7 : (sel c.Key (some false) (bnd (impl_PicOk ref) fun q8 => sel q8 (sel (ref.Wide != now.Wide) (some true) (some (ref.High != now.High))) (some true))) = some false := by
   cases hK : c.Key with
   | true => rfl
   | false =>
    obtain ⟨a1, a2, a3⟩ := hk hK
    rw [sel_f, impl_PicOk_eq, bnd_s, a1, a2, a3, sel_t, bne_self_eq_false, sel_f, bne_self_eq_false]
  rw [impl_PicOk_eq, bnd_s, ok, sel_t, isSquare_yes ok hx hy h0, bnd_s, sel_t, impl_areDots_eq w (by omega), bnd_s, hw, sel_t, impl_CondOk_eq, bnd_s, hc, sel_t, impl_within_eq, bnd_s, decide_eq_true hr, Bool.not_true, bnd_s, sel_f, hl7, bnd_s, sel_f, EdgesOf_alike ok hx hy h0, ee, bnd_s, BestGuess_alike hw he, eb, bnd_s, GuessOf_alike m hm he, eg, bnd_s, impl_lessened_eq hw hg, bnd_s, LevelsOf_alike _ c hc (lessL_len _ _) (lessL_in hw hg), el, bnd_s]
  simp only
  rw [ei, bnd_s]
  simp only
  rw [show (⟨q.Kind, q.Mode, q.Dx, q.Dy, q.Levels⟩ : Square) = q from rfl, di, bnd_s]
  rfl
 ·
  unfold spec_SquareFor
  have hl7 : (sel c.Key (some false) (bnd (spec_l17Like now ref) fun q6 => some (!q6))) = some false := by
   cases hK : c.Key with
   | true => rfl
   | false =>
    obtain ⟨a1, a2, a3⟩ := hk hK
    rw [sel_f, spec_l17Like_eq, bnd_s, likeB_of ok a1 a2 a3]; rfl
  rw [spec_l13Fits_yes ok hx hy h0, bnd_s, sel_t, spec_l13Dots_yes w hw, bnd_s, sel_t, spec_CondOk_eq, bnd_s, hc, sel_t, spec_l01In_eq, bnd_s, decide_eq_true hr, sel_t, hl7, bnd_s, sel_f, es, bnd_s, ds, bnd_s]
theorem SquareFor_both (now ref : Pic) (w : List Int) (x y : Int) (c : Cond) (r : Int) (hwl : w.length ≤ 1048576) : (∃ q d, impl_SquareFor now ref w x y c r = some (q, d, true) ∧ spec_SquareFor now ref w x y c r = some (q, d, true) ∧ q.Levels.length ≤ 64 ∧ d.length = 64) ∨ (impl_SquareFor now ref w x y c r = some (⟨0, 0, 0, 0, []⟩, [], false) ∧ spec_SquareFor now ref w x y c r = some (⟨0, 0, 0, 0, []⟩, [], false)) := by
 by_cases H : SfIn now ref w x y c r
 ·
  obtain ⟨q, d, e1, e2, hq, _, hd⟩ := SquareFor_yes H
  exact .inl ⟨q, d, e1, e2, (hq.ok H.hr).2.2, (dots64_at hd).1⟩
 ·
  refine .inr ?_
  have hi : impl_SquareFor now ref w x y c r = some (⟨0, 0, 0, 0, []⟩, [], false) := by
   unfold impl_SquareFor
   rw [impl_PicOk_eq, bnd_s]
   cases ok : picOk now with
   | false => rfl
   | true =>
    rw [sel_t, impl_isSquare_all ok, bnd_s]
    cases hf : sqFits now x y with
    | false => rfl
    | true =>
     rw [sel_t, impl_areDots_eq w (by omega), bnd_s]
     cases hw : dots64 w with
     | false => rfl
     | true =>
      rw [sel_t, impl_CondOk_eq, bnd_s]
      cases hc : condOk c with
      | false => rfl
      | true =>
       rw [sel_t, impl_within_eq, bnd_s]
       by_cases hr : 0 ≤ r ∧ r ≤ 4
       ·
        rw [decide_eq_true hr, Bool.not_true, bnd_s, sel_f]
        unfold sqFits at hf
        simp only [Bool.and_eq_true, decide_eq_true_eq] at hf
        obtain ⟨_, f1, f2, f3⟩ := hf
        cases hK : c.Key with
        | true => exact absurd ⟨ok, f1, f2, f3, hw, hc, hr, fun h => by rw [hK] at h; cases h⟩ H
        | false =>
         rw [sel_f, impl_PicOk_eq, bnd_s]
         cases rok : picOk ref with
         | false => rfl
         | true =>
          rw [sel_t]
          by_cases a : ref.Wide = now.Wide
          ·
           by_cases b : ref.High = now.High
           ·
            exact absurd ⟨ok, f1, f2, f3, hw, hc, hr, fun _ => ⟨rok, a, b⟩⟩ H
           ·
            rw [sel_neg (b := ref.Wide != now.Wide) (by simpa using a), show (ref.High != now.High) = true by simpa using b]; rfl
          ·
           rw [sel_pos (b := ref.Wide != now.Wide) (by simpa using a)]; rfl
       ·
        rw [decide_eq_false hr]; rfl
  have hs : spec_SquareFor now ref w x y c r = some (⟨0, 0, 0, 0, []⟩, [], false) := by
   unfold spec_SquareFor
   rw [spec_l13Fits_eq, bnd_s]
   cases hf : sqFits now x y with
   | false => rfl
   | true =>
    rw [sel_t, spec_l13Dots_eq, bnd_s]
    cases hw : dots64 w with
    | false => rfl
    | true =>
     rw [sel_t, spec_CondOk_eq, bnd_s]
     cases hc : condOk c with
     | false => rfl
     | true =>
      rw [sel_t, spec_l01In_eq, bnd_s]
      by_cases hr : 0 ≤ r ∧ r ≤ 4
      ·
       rw [decide_eq_true hr, sel_t]
       unfold sqFits at hf
       simp only [Bool.and_eq_true, decide_eq_true_eq] at hf
       obtain ⟨ok, f1, f2, f3⟩ := hf
       cases hK : c.Key with
       | true => exact absurd ⟨ok, f1, f2, f3, hw, hc, hr, fun h => by rw [hK] at h; cases h⟩ H
       | false =>
        rw [sel_f, spec_l17Like_eq, bnd_s]
        cases hl : likeB now ref with
        | false => rfl
        | true =>
         obtain ⟨a1, a2, a3⟩ := likeB_parts hl
         exact absurd ⟨ok, f1, f2, f3, hw, hc, hr, fun _ => ⟨a1, a2, a3⟩⟩ H
      ·
       rw [decide_eq_false hr]; rfl
  exact ⟨hi, hs⟩
theorem laws_eqSquare_self (q : Square) (h : q.Levels.length ≤ 9223372036854775806) : laws_eqSquare q q = some true := by
 unfold laws_eqSquare
 simp only [laws_eqIntS_self _ h, bnd_s, bne_self_eq_false, sel_f, Bool.not_true]
theorem FnExactSquareFor {p0 p1 : Pic} {p2 : List Int} {p3 p4 : Int} {p5 : Cond} {p6 : Int} (h0 : okPic p0) (h1 : okPic p1) (h2 : p2.length ≤ maxLen ∧ ∀ y ∈ p2, (Lit.int .i64 y).wf = true) (h3 : (Lit.int .i64 p3).wf = true) (h4 : (Lit.int .i64 p4).wf = true) (h5 : okCond p5) (h6 : (Lit.int .i64 p6).wf = true) : laws_FnExactSquareFor p0 p1 p2 p3 p4 p5 p6 = some true := by
 have hm : maxLen = 9223372036854775807 := rfl
 unfold laws_FnExactSquareFor
 by_cases hl : (p2.length : Int) > 1048576
 ·
  rw [sel_yes hl]
 rw [sel_no hl]
 have d0 : p0.Dots.size ≤ maxLen := h0.2.2
 have d1 : p1.Dots.size ≤ maxLen := h1.2.2
 rw [laws_szPic_eq p0 1048576 d0 (by omega) (by omega), bnd_s]
 by_cases hz : (1048576 : Int) < p0.Dots.size
 ·
  rw [if_pos hz, sel_yes (by omega)]
 rw [if_neg hz, sel_no (by omega), laws_szPic_eq p1 _ d1 (by omega) (by omega), bnd_s]
 by_cases hz1 : 1048576 - (p0.Dots.size : Int) < p1.Dots.size
 ·
  rw [if_pos hz1, sel_yes (by omega)]
 rw [if_neg hz1, sel_no (by omega)]
 obtain ⟨q, d, b, ei, es, hq, hd⟩ : ∃ q d b, impl_SquareFor p0 p1 p2 p3 p4 p5 p6 = some (q, d, b) ∧ spec_SquareFor p0 p1 p2 p3 p4 p5 p6 = some (q, d, b) ∧ q.Levels.length ≤ 64 ∧ d.length ≤ 64 := by
  rcases SquareFor_both p0 p1 p2 p3 p4 p5 p6 (by omega) with ⟨q, d, e1, e2, a, b⟩ | ⟨e1, e2⟩
  ·
   exact ⟨q, d, true, e1, e2, a, by omega⟩
  ·
   exact ⟨_, _, _, e1, e2, by simp, by simp⟩
 simp only [laws_toPic, laws_toCond, laws_toIntS_eq p2 (by omega), bnd_s, ei, es, laws_eqSquare_self q (by omega), laws_eqIntS_self d (by omega), laws_eqIntS_self p2 (by omega), sel_t, beq_self_eq_true, Bool.not_true, sel_f]
 rw [laws_markIntS_eq p2 1 (by omega) (by omega) (by omega), bnd_s]
 simp only
 rw [sel_no (by omega), bnd_s, sel_f]
 unfold laws_markSquare
 rw [laws_markIntS_eq q.Levels 1 (by omega) (by omega) (by omega), bnd_s, bnd_s]
 simp only
 rw [laws_markIntS_eq d (1 + (q.Levels.length : Int)) (by omega) (by omega) (by omega), bnd_s]
 simp only
 unfold laws_heldSquare
 simp only
 rw [laws_heldIntS_eq q.Levels 1 (by omega) (by omega) (by omega), bnd_s, sel_no (by omega), bnd_s, sel_no (by omega), laws_heldIntS_eq d (1 + (q.Levels.length : Int)) (by omega) (by omega) (by omega), bnd_s, sel_no (by omega), bne_self_eq_false, sel_f, bnd_s, sel_no (by omega), laws_heldIntS_eq d (1 + (q.Levels.length : Int)) (by omega) (by omega) (by omega), bnd_s, sel_no (by omega), bne_self_eq_false, sel_f]
end Go.Proofs.YtpmljllgnocjkaaGreat.A.Pure
