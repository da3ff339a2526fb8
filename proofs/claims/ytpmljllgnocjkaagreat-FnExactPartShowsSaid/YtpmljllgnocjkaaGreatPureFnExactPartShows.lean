/- The pure statement of the law FnExactPartShows: over numbers, texts and lists alone, what the law computes is true. Conditions: the sizes of what a machine holds. -/
import Derived.Test.YtpmljllgnocjkaaGreatDFnExactPartShows
namespace Go.Proofs.YtpmljllgnocjkaaGreat.A.Pure
open Go Go.Proofs Go.Proofs.YtpmljllgnocjkaaGreatAL Go.RowKit
set_option linter.unusedVariables false
set_option linter.unusedSimpArgs false
set_option maxHeartbeats 1000000
theorem bnd_s {α β : Type} (a : α) (f : α → Option β) : bnd (some a) f = f a := rfl
theorem bnd_e {α β : Type} {x : Option α} {a : α} {f : α → Option β} (h : x = some a) : bnd x f = f a := by subst h; rfl
theorem sel_t {β : Type} (x y : β) : sel true x y = x := rfl
theorem sel_f {β : Type} (x y : β) : sel false x y = y := rfl
theorem sel_and (b x : Bool) : sel b (some x) (some false) = some (b && x) := by cases b <;> rfl
theorem sel_or (b x : Bool) : sel b (some true) (some x) = some (b || x) := by cases b <;> rfl
theorem sel_nor (b x : Bool) : sel b (some x) (some true) = some (!b || x) := by cases b <;> rfl
theorem sel_ss {β : Type} (b : Bool) (x y : β) : sel b (some x) (some y) = some (sel b x y) := by cases b <;> rfl
theorem sel_ite {β : Type} (b : Bool) (x y : β) : sel b x y = if b = true then x else y := by cases b <;> rfl
theorem sel_d {β : Type} (p : Prop) [Decidable p] (x y : β) : sel (decide p) x y = if p then x else y := by
 by_cases h : p <;> simp [h, sel]
theorem sel_pos {β : Type} {b : Bool} {x y : β} (h : b = true) : sel b x y = x := by subst h; rfl
theorem sel_neg {β : Type} {b : Bool} {x y : β} (h : b = false) : sel b x y = y := by subst h; rfl
theorem sel_yes {β : Type} {p : Prop} [Decidable p] {x y : β} (h : p) : sel (decide p) x y = x := by simp [h, sel]
theorem sel_no {β : Type} {p : Prop} [Decidable p] {x y : β} (h : ¬ p) : sel (decide p) x y = y := by simp [h, sel]
theorem req_p {β : Type} {c : Prop} [Decidable c] {k : Option β} (h : c) : req c k = k := if_pos h
theorem wk {e : Int} (h1 : -9223372036854775808 ≤ e) (h2 : e ≤ 9223372036854775807) : wrapK .i64 e = e := by
 show wrap64 e = e
 unfold wrap64; omega
theorem w8 {e : Int} (h1 : 0 ≤ e) (h2 : e ≤ 255) : wrapK .u8 e = e := by
 show IntKind.wrap .u8 e = e
 simp [IntKind.wrap, IntKind.signed, IntKind.bits]; omega
theorem tmod_pos {a b : Int} (h : 0 ≤ a) : Int.tmod a b = a % b := Int.tmod_eq_emod_of_nonneg h
theorem tdiv_pos {a b : Int} (h : 0 ≤ a) : Int.tdiv a b = a / b := Int.tdiv_eq_ediv_of_nonneg h
theorem down_to {P : Nat → Prop} (n : Nat) (h0 : P n) (hs : ∀ i, i < n → P (i + 1) → P i) : ∀ i, i ≤ n → P i := by
 intro i hi
 obtain ⟨k, rfl⟩ : ∃ k, n = i + k := ⟨n - i, by omega⟩
 clear hi
 induction k generalizing i with
 | zero => exact h0
 | succ k ih =>
  refine hs i (by omega) ?_
  exact ih (i + 1) (by rw [show i + 1 + k = i + (k + 1) by omega]; exact h0) (fun j hj => hs j (by omega))
theorem lgo {V O : Type} {f : V → Option (Lp V O)} {x y : V} {r : Option O} (h : f x = some (.go y)) (k : loop f y = r) : loop f x = r := by rw [loop_go h]; exact k
theorem ldone {V O : Type} {f : V → Option (Lp V O)} {x : V} {o : O} (h : f x = some (.done o)) : loop f x = some o := loop_done h
theorem getD_at {α : Type} (l : List α) (i : Nat) (h : i < l.length) (d : α) : l.getD i d = l[i] := by
 simp [List.getD_eq_getElem?_getD, List.getElem?_eq_getElem h]
theorem impl_within_eq (a b c : Int) : impl_within a b c = some (decide (b ≤ a ∧ a ≤ c)) := by
 unfold impl_within
 by_cases h : b ≤ a <;> simp [bnd, sel, h]
theorem spec_l01In_eq (a b c : Int) : spec_l01In a b c = some (decide (b ≤ a ∧ a ≤ c)) := by
 unfold spec_l01In
 by_cases h : b ≤ a <;> simp [bnd, sel, h]
theorem set_mid {α : Type} (a : List α) (x y : α) (b : List α) : (a ++ x :: b).set a.length y = a ++ y :: b := by
 induction a with
 | nil => rfl
 | cons z a ih => simp only [List.cons_append, List.length_cons, List.set_cons_succ, ih]
theorem getD_mid {α : Type} (a : List α) (x d : α) (b : List α) : (a ++ x :: b).getD a.length d = x := by
 induction a with
 | nil => rfl
 | cons z a ih => simp
theorem self_loop {f : Int → Option (Lp Int (Ou Unit Bool))} (n : Nat) (h : ∀ i : Nat, i < n → f i = some (.go ((i + 1 : Nat) : Int))) (h0 : f n = some (.done (.out ()))) : loop f 0 = some (.out ()) :=
 down_to (P := fun i => loop f (i : Int) = some (.out ())) n (loop_done h0) (fun i hi ih => by rw [loop_go (h i hi)]; exact ih) 0 (by omega)
def brought (n a b : Int) : Int := if b < a ∨ n < a then a else if n > b then b else n
theorem impl_Brought_eq (n a b : Int) : impl_Brought n a b = some (brought n a b) := by
 unfold impl_Brought brought
 congr 1
 repeat' split
 all_goals omega
theorem brought_in {n a b : Int} (h : a ≤ b) : a ≤ brought n a b ∧ brought n a b ≤ b := by
 unfold brought
 repeat' split
 all_goals omega
theorem spec_Brought_eq (n a b : Int) : spec_Brought n a b = some (brought n a b) := by
 unfold spec_Brought brought
 rw [sel_or, bnd_s]
 by_cases h : b < a ∨ n < a
 ·
  rw [if_pos h, sel_pos (by simpa using h)]
 ·
  rw [if_neg h, sel_neg (by simp; omega), sel_d]; split <;> rfl
def parOk (p : Par) : Bool := decide (0 ≤ p.Qp ∧ p.Qp ≤ 40) && !(p.Large && p.Exact)
theorem spec_ParOk_eq (p : Par) : spec_ParOk p = some (parOk p) := by
 unfold spec_ParOk parOk
 rw [spec_l01In_eq, bnd_s, sel_nor, sel_and, bnd_s]
 cases p.Large <;> cases p.Exact <;> rfl
theorem impl_ParOk_eq (p : Par) : impl_ParOk p = some (parOk p) := by
 unfold impl_ParOk parOk
 rw [impl_within_eq, bnd_s, sel_nor, sel_and, bnd_s]
 cases p.Large <;> cases p.Exact <;> rfl
def picOk (p : Pic) : Bool := decide (1 ≤ p.Wide ∧ p.Wide ≤ 256) && (decide (1 ≤ p.High ∧ p.High ≤ 256) && ((p.Dots.size : Int) == p.Wide * p.High))
theorem area_small {w h : Int} (h1 : 1 ≤ w ∧ w ≤ 256) (h2 : 1 ≤ h ∧ h ≤ 256) : 1 ≤ w * h ∧ w * h ≤ 65536 := by
 have a : w * 1 ≤ w * h := Int.mul_le_mul_of_nonneg_left h2.1 (by omega)
 have b : w * h ≤ 256 * h := Int.mul_le_mul_of_nonneg_right h1.2 (by omega)
 omega
theorem spec_PicOk_eq (p : Pic) : spec_PicOk p = some (picOk p) := by
 unfold spec_PicOk picOk
 simp only [spec_l01In_eq, bnd_s, sel_and]
 by_cases h1 : 1 ≤ p.Wide ∧ p.Wide ≤ 256
 ·
  by_cases h2 : 1 ≤ p.High ∧ p.High ≤ 256
  ·
   have := area_small h1 h2
   rw [wk (by omega) (by omega)]
  ·
   rw [decide_eq_false h2, Bool.false_and, Bool.false_and]
 ·
  rw [decide_eq_false h1, Bool.false_and, Bool.false_and]
theorem impl_PicOk_eq (p : Pic) : impl_PicOk p = some (picOk p) := by
 unfold impl_PicOk picOk
 simp only [impl_within_eq, bnd_s, sel_and]
 by_cases h1 : 1 ≤ p.Wide ∧ p.Wide ≤ 256
 ·
  by_cases h2 : 1 ≤ p.High ∧ p.High ≤ 256
  ·
   have := area_small h1 h2
   rw [wk (by omega) (by omega)]
  ·
   rw [decide_eq_false h2, Bool.false_and, Bool.false_and]
 ·
  rw [decide_eq_false h1, Bool.false_and, Bool.false_and]
theorem laws_eqPic_self (p : Pic) : laws_eqPic p p = some true := by
 unfold laws_eqPic
 simp only [bne_self_eq_false, sel_f, beq_self_eq_true, Bool.not_true]
def byteL (l : List Int) : Prop := ∀ x ∈ l, 0 ≤ x ∧ x ≤ 255
theorem bt_str (l : List Int) (h : byteL l) (i : Nat) (hi : i < l.length) : btOf (strOfNums l) (i : Int) = l.getD i 0 := by
 unfold btOf
 rw [dif_pos (by rw [Int.toNat_natCast, strOfNums_size]; exact hi)]
 have hx := h l[i] (List.getElem_mem hi)
 rw [getD_at l i hi]
 show ((((l.map fun n => UInt8.ofNat n.toNat).toArray)[(i : Int).toNat]'(by simpa using hi)).toNat : Int) = _
 simp only [Int.toNat_natCast, List.getElem_toArray, List.getElem_map, UInt8.toNat_ofNat']
 omega
def bitL (l : List Int) : Prop := ∀ x ∈ l, x = 48 ∨ x = 49
theorem bitL_byte {l : List Int} (h : bitL l) : byteL l := fun x hx => by rcases h x hx with e | e <;> omega
theorem spec_l01Long_eq (n : Nat) (x : Int) (h : n ≤ 1000000000) : spec_l01Long (n : Int) x = some (strOfNums (List.replicate n x)) := by
 unfold spec_l01Long
 rw [req_p (by omega), Int.toNat_natCast]
 have key : ∀ (k a : Nat), k + a = n → loop (spec_l01Long_l2 (n : Int) x) ((a : Int), List.replicate a x ++ List.replicate k 0) = some (List.replicate n x) := by
  intro k
  induction k with
  | zero =>
   intro a ha
   refine ldone ?_
   unfold spec_l01Long_l2
   simp only
   rw [sel_no (by omega)]
   simp; omega
  | succ k ih =>
   intro a ha
   have e2 := set_mid (List.replicate a x) 0 x (List.replicate k 0)
   rw [List.length_replicate] at e2
   refine lgo (y := (((a + 1 : Nat) : Int), List.replicate (a + 1) x ++ List.replicate k 0)) ?_ (ih (a + 1) (by omega))
   unfold spec_l01Long_l2
   simp only [List.replicate_succ (n := k), Int.toNat_natCast]
   rw [sel_yes (by omega), req_p (by simp; omega), req_p (by simp), e2, wk (by omega) (by omega), List.replicate_succ' (n := a), List.append_assoc]
   rfl
 have := key n 0 rfl
 rw [List.replicate_zero, List.nil_append] at this
 exact bnd_e this
def val8 (l : List Int) : Int := l.foldl (fun x b => 2 * x + b - 48) 0
theorem val_acc (l : List Int) : ∀ x : Int, l.foldl (fun x b => 2 * x + b - 48) x = x * 2 ^ l.length + val8 l := by
 induction l with
 | nil => intro x; simp [val8]
 | cons b l ih =>
  intro x
  unfold val8
  rw [List.foldl_cons, List.foldl_cons, ih, ih (2 * 0 + b - 48), List.length_cons, Int.pow_succ]
  have e1 : (2 * x + b - 48) * 2 ^ l.length = 2 * (x * 2 ^ l.length) + (b - 48) * 2 ^ l.length := by
   rw [show 2 * x + b - 48 = 2 * x + (b - 48) by omega, Int.add_mul, Int.mul_assoc]
  have e2 : x * (2 ^ l.length * 2) = 2 * (x * 2 ^ l.length) := by rw [← Int.mul_assoc, Int.mul_comm]
  rw [e1, e2, show (2 : Int) * 0 + b - 48 = b - 48 by omega]
  omega
theorem val_app (a b : List Int) : val8 (a ++ b) = val8 a * 2 ^ b.length + val8 b := by
 show (a ++ b).foldl _ 0 = _
 rw [List.foldl_append]
 exact val_acc b (val8 a)
theorem val_range {l : List Int} (h : bitL l) : 0 ≤ val8 l ∧ val8 l < 2 ^ l.length := by
 induction l with
 | nil => simp [val8]
 | cons b l ih =>
  have h1 := ih (fun x hx => h x (by simp [hx]))
  have h2 := h b (by simp)
  rw [show b :: l = [b] ++ l from rfl, val_app, List.length_append, Int.pow_add, show val8 [b] = b - 48 by simp [val8]]
  have : (2 : Int) ^ [b].length = 2 := rfl
  rw [this]
  rcases h2 with rfl | rfl <;> omega
theorem laws_szPic_eq (p : Pic) (m : Int) (hl : p.Dots.size ≤ maxLen) (h0 : 0 ≤ m) (h1 : m ≤ 1048576) : laws_szPic p m = some (if m < p.Dots.size then -1 else m - p.Dots.size) := by
 have hm : maxLen = 9223372036854775807 := rfl
 unfold laws_szPic
 rw [wk (by omega) (by omega), sel_d]
 by_cases h : m < p.Dots.size
 ·
  rw [if_pos h, if_pos (by omega)]
 ·
  rw [if_neg h, if_neg (by omega)]
def lvIn (x : Int) : Bool := decide (-5000 ≤ x ∧ x ≤ 5000)
def lv64 (l : List Int) : Bool := decide (l.length = 64) && l.all lvIn
theorem all_loop (p : Int → Bool) (l : List Int) (f : Int → Option (Lp Int (Ou Unit Bool))) (h : ∀ i : Nat, i < l.length → f (i : Int) = sel (!(p (l.getD i 0))) (some (.done (.ret false))) (some (.go ((i + 1 : Nat) : Int)))) (h0 : f (l.length : Int) = some (.done (.out ()))) :
  loop f 0 = some (if l.all p = true then .out () else .ret false) := by
 have key : ∀ (r a : List Int), l = a ++ r → loop f (a.length : Int) = some (if r.all p = true then .out () else .ret false) := by
  intro r
  induction r with
  | nil => intro a ha; rw [List.append_nil] at ha; rw [← ha, loop_done h0]; rfl
  | cons x r ih =>
   intro a ha
   have hlen : a.length < l.length := by rw [ha]; simp
   have hx : l.getD a.length 0 = x := by rw [ha]; exact getD_mid a x _ r
   have hs := h a.length hlen
   rw [hx] at hs
   cases e : p x with
   | true =>
    rw [e] at hs
    have := ih (a ++ [x]) (by rw [ha]; simp)
    rw [List.length_append, List.length_singleton] at this
    rw [loop_go hs, this, List.all_cons, e, Bool.true_and]
   | false => rw [e] at hs; rw [loop_done hs, List.all_cons, e, Bool.false_and]; rfl
 exact key l [] rfl
theorem spec_l09All_lv (l : List Int) : spec_l09All l 64 5000 = some (lv64 l) := by
 unfold spec_l09All lv64
 by_cases h : l.length = 64
 ·
  rw [sel_neg (by simp only [bne_eq_false_iff_eq]; omega), all_loop lvIn l (spec_l09All_l2 l 64 5000) (by
   intro i hi
   unfold spec_l09All_l2
   rw [sel_yes (by omega), req_p (by omega), wk (e := 0 - 5000) (by omega) (by omega), spec_l01In_eq, bnd_s, wk (by omega) (by omega), Int.toNat_natCast]
   rfl) (by unfold spec_l09All_l2; rw [sel_no (by omega)]), bnd_s, decide_eq_true h, Bool.true_and]
  cases l.all lvIn <;> rfl
 ·
  rw [sel_pos (by simp only [bne_iff_ne, ne_eq]; omega), decide_eq_false h, Bool.false_and]
theorem impl_areIn_eq (l : List Int) (n lo hi : Int) (hl : l.length ≤ 9223372036854775806) : impl_areIn l n lo hi = some (l.all (fun x => decide (lo ≤ x ∧ x ≤ hi)) && ((l.length : Int) == n)) := by
 unfold impl_areIn
 rw [all_loop (fun x => decide (lo ≤ x ∧ x ≤ hi)) l (impl_areIn_l2 l lo hi) (by
   intro i hi
   unfold impl_areIn_l2
   rw [sel_yes (by omega), req_p (by omega), impl_within_eq, bnd_s, wk (by omega) (by omega), Int.toNat_natCast]
   rfl) (by unfold impl_areIn_l2; rw [sel_no (by omega)]), bnd_s]
 cases l.all (fun x => decide (lo ≤ x ∧ x ≤ hi)) <;> rfl
theorem impl_areLevels_eq (l : List Int) (hl : l.length ≤ 9223372036854775806) : impl_areLevels l = some (lv64 l) := by
 unfold impl_areLevels lv64
 rw [impl_areIn_eq l _ _ _ hl, bnd_s]
 show some (l.all lvIn && ((l.length : Int) == 64)) = _
 have : ((l.length : Int) == 64) = decide (l.length = 64) := by rw [Bool.eq_iff_iff]; simp only [beq_iff_eq, decide_eq_true_eq]; omega
 rw [this, Bool.and_comm]
theorem lv64_parts {l : List Int} (h : lv64 l = true) : l.length = 64 ∧ l.all lvIn = true := by
 unfold lv64 at h; rw [Bool.and_eq_true, decide_eq_true_eq] at h; exact h
def condOk (c : Cond) : Bool := decide (0 ≤ c.Qp ∧ c.Qp ≤ 40) && !(c.Large && c.Exact)
theorem spec_CondOk_eq (c : Cond) : spec_CondOk c = some (condOk c) := by
 unfold spec_CondOk condOk
 rw [spec_l01In_eq, bnd_s, sel_nor, sel_and, bnd_s]
 cases c.Large <;> cases c.Exact <;> rfl
theorem impl_CondOk_eq (c : Cond) : impl_CondOk c = some (condOk c) := by
 unfold impl_CondOk condOk
 rw [impl_within_eq, bnd_s, sel_nor, sel_and, bnd_s]
 cases c.Large <;> cases c.Exact <;> rfl
def sqOk (s : Square) : Bool :=
 if s.Kind = 0 then decide (s.Mode = 0 ∧ s.Dx = 0 ∧ s.Dy = 0 ∧ s.Levels.length = 0)
 else if s.Kind = 1 then decide (s.Mode = 0) && (decide (-16 ≤ s.Dx ∧ s.Dx ≤ 16) && (decide (-16 ≤ s.Dy ∧ s.Dy ≤ 16) && lv64 s.Levels))
 else if s.Kind = 2 then decide (0 ≤ s.Mode ∧ s.Mode ≤ 3) && (decide (s.Dx = 0) && (decide (s.Dy = 0) && lv64 s.Levels))
 else false
theorem beq_dec (a b : Int) : (a == b) = decide (a = b) := by rw [Bool.eq_iff_iff]; simp
theorem spec_SquareOk_eq (s : Square) : spec_SquareOk s = some (sqOk s) := by
 unfold spec_SquareOk sqOk
 simp only [spec_l01In_eq, spec_l09All_lv, bnd_s, sel_and, beq_dec]
 simp only [sel_d]
 by_cases h0 : s.Kind = 0
 ·
  rw [if_pos h0, if_pos h0]; congr 1; rw [Bool.eq_iff_iff]; simp
 ·
  rw [if_neg h0, if_neg h0]
  by_cases h1 : s.Kind = 1
  ·
   rw [if_pos h1, if_pos h1]
  ·
   rw [if_neg h1, if_neg h1]
   by_cases h2 : s.Kind = 2
   ·
    rw [decide_eq_true h2, Bool.true_and, if_pos h2]
   ·
    rw [decide_eq_false h2, Bool.false_and, if_neg h2]
theorem impl_SquareOk_eq (s : Square) (hl : s.Levels.length ≤ 9223372036854775806) : impl_SquareOk s = some (sqOk s) := by
 unfold impl_SquareOk sqOk
 simp only [impl_within_eq, impl_areLevels_eq _ hl, bnd_s, sel_and, beq_dec]
 simp only [sel_d]
 by_cases h0 : s.Kind = 0
 ·
  rw [if_pos h0, if_pos h0]; congr 1; rw [Bool.eq_iff_iff]; simp
 ·
  rw [if_neg h0, if_neg h0]
  by_cases h1 : s.Kind = 1
  ·
   rw [if_pos h1, if_pos h1]
  ·
   rw [if_neg h1, if_neg h1]
   by_cases h2 : s.Kind = 2
   ·
    rw [decide_eq_true h2, Bool.true_and, if_pos h2]
   ·
    rw [decide_eq_false h2, Bool.false_and, if_neg h2]
def sqLet (s : Square) (c : Cond) : Bool := !c.Key || s.Kind == 2
theorem sqOk_kind {s : Square} (h : sqOk s = true) : 0 ≤ s.Kind ∧ s.Kind ≤ 2 := by
 unfold sqOk at h
 repeat' split at h
 all_goals first | omega | simp at h
theorem sqOk_one {s : Square} (h : sqOk s = true) (h1 : s.Kind = 1) : (-16 ≤ s.Dx ∧ s.Dx ≤ 16) ∧ (-16 ≤ s.Dy ∧ s.Dy ≤ 16) ∧ lv64 s.Levels = true := by
 unfold sqOk at h
 rw [if_neg (by omega), if_pos h1] at h
 simp only [Bool.and_eq_true, decide_eq_true_eq] at h
 exact ⟨h.2.1, h.2.2.1, h.2.2.2⟩
theorem sqOk_two {s : Square} (h : sqOk s = true) (h1 : s.Kind = 2) : (0 ≤ s.Mode ∧ s.Mode ≤ 3) ∧ lv64 s.Levels = true := by
 unfold sqOk at h
 rw [if_neg (by omega), if_neg (by omega), if_pos h1] at h
 simp only [Bool.and_eq_true, decide_eq_true_eq] at h
 exact ⟨h.1, h.2.2.2⟩
def sqAll (l : List Square) (c : Cond) : Bool := l.all fun s => sqOk s && (condOk c && sqLet s c)
theorem bt_range (b : ByteArray) (i : Int) : 0 ≤ btOf b i ∧ btOf b i ≤ 255 := by
 unfold btOf
 split
 ·
  rename_i h
  have := (b[i.toNat]'h).toNat_lt
  omega
 ·
  omega
theorem picOk_parts {p : Pic} (h : picOk p = true) : (1 ≤ p.Wide ∧ p.Wide ≤ 256) ∧ (1 ≤ p.High ∧ p.High ≤ 256) ∧ (p.Dots.size : Int) = p.Wide * p.High := by
 unfold picOk at h
 simp only [Bool.and_eq_true, decide_eq_true_eq, beq_iff_eq] at h
 exact ⟨h.1, h.2.1, h.2.2⟩
theorem picOk_of {p : Pic} (h1 : 1 ≤ p.Wide ∧ p.Wide ≤ 256) (h2 : 1 ≤ p.High ∧ p.High ≤ 256) (h3 : (p.Dots.size : Int) = p.Wide * p.High) : picOk p = true := by
 unfold picOk
 simp only [Bool.and_eq_true, decide_eq_true_eq, beq_iff_eq]
 exact ⟨h1, h2, h3⟩
def dotAt (p : Pic) (x y : Int) : Int := btOf p.Dots (brought y 0 (p.High - 1) * p.Wide + brought x 0 (p.Wide - 1))
theorem dotAt_range (p : Pic) (x y : Int) : 0 ≤ dotAt p x y ∧ dotAt p x y ≤ 255 := bt_range _ _
theorem dot_place {p : Pic} (ok : picOk p = true) (x y : Int) : 0 ≤ brought y 0 (p.High - 1) * p.Wide + brought x 0 (p.Wide - 1) ∧ brought y 0 (p.High - 1) * p.Wide + brought x 0 (p.Wide - 1) < p.Dots.size ∧ 0 ≤ brought y 0 (p.High - 1) * p.Wide ∧ brought y 0 (p.High - 1) * p.Wide ≤ 65536 := by
 obtain ⟨h1, h2, h3⟩ := picOk_parts ok
 have b1 := brought_in (n := y) (a := 0) (b := p.High - 1) (by omega)
 have b2 := brought_in (n := x) (a := 0) (b := p.Wide - 1) (by omega)
 have m1 := Int.mul_nonneg b1.1 (show 0 ≤ p.Wide by omega)
 have m2 := Int.mul_le_mul_of_nonneg_right b1.2 (show 0 ≤ p.Wide by omega)
 have m3 : (p.High - 1) * p.Wide = p.Wide * p.High - p.Wide := by rw [Int.sub_mul, Int.one_mul, Int.mul_comm]
 have m4 := (area_small h1 h2).2
 omega
theorem impl_dot_eq {p : Pic} (ok : picOk p = true) (x y : Int) : impl_Pic_dot p x y = some (dotAt p x y) := by
 obtain ⟨h1, h2, h3⟩ := picOk_parts ok
 unfold impl_Pic_dot dotAt
 rw [impl_Brought_eq, bnd_s, impl_Brought_eq, bnd_s, wk (e := p.High - 1) (by omega) (by omega), wk (e := p.Wide - 1) (by omega) (by omega)]
 obtain ⟨p1, p2, p3, p4⟩ := dot_place ok x y
 have b2 := brought_in (n := x) (a := 0) (b := p.Wide - 1) (by omega)
 have br := bt_range p.Dots (brought y 0 (p.High - 1) * p.Wide + brought x 0 (p.Wide - 1))
 rw [wk (e := brought y 0 (p.High - 1) * p.Wide) (by omega) (by omega), wk (e := brought y 0 (p.High - 1) * p.Wide + brought x 0 (p.Wide - 1)) (by omega) (by omega), req_p ⟨p1, p2⟩, wk (by omega) (by omega)]
theorem spec_DotAt_eq {p : Pic} (ok : picOk p = true) (x y : Int) : spec_DotAt p x y = some (dotAt p x y) := by
 obtain ⟨h1, h2, h3⟩ := picOk_parts ok
 unfold spec_DotAt dotAt
 rw [spec_PicOk_eq, bnd_s, ok, Bool.not_true, sel_f, spec_Brought_eq, bnd_s, spec_Brought_eq, bnd_s, wk (e := p.High - 1) (by omega) (by omega), wk (e := p.Wide - 1) (by omega) (by omega)]
 obtain ⟨p1, p2, p3, p4⟩ := dot_place ok x y
 have b2 := brought_in (n := x) (a := 0) (b := p.Wide - 1) (by omega)
 have br := bt_range p.Dots (brought y 0 (p.High - 1) * p.Wide + brought x 0 (p.Wide - 1))
 rw [wk (e := brought y 0 (p.High - 1) * p.Wide) (by omega) (by omega), wk (e := brought y 0 (p.High - 1) * p.Wide + brought x 0 (p.Wide - 1)) (by omega) (by omega), req_p ⟨p1, p2⟩, wk (by omega) (by omega)]
def blkAt (p : Pic) (x y : Int) (i : Nat) : Int := dotAt p (x + ((i % 8 : Nat) : Int)) (y + ((i / 8 : Nat) : Int))
def blkL (p : Pic) (x y : Int) (n : Nat) : List Int := (List.range n).map (blkAt p x y)
theorem blkL_succ (p : Pic) (x y : Int) (n : Nat) : blkL p x y (n + 1) = blkL p x y n ++ [blkAt p x y n] := by simp [blkL, List.range_succ]
theorem blkL_length (p : Pic) (x y : Int) (n : Nat) : (blkL p x y n).length = n := by simp [blkL]
def dotIn (x : Int) : Bool := decide (0 ≤ x ∧ x ≤ 255)
def dots64 (l : List Int) : Bool := decide (l.length = 64) && l.all dotIn
theorem dots64_at {l : List Int} (h : dots64 l = true) : l.length = 64 ∧ ∀ i : Nat, i < 64 → 0 ≤ l.getD i 0 ∧ l.getD i 0 ≤ 255 := by
 simp only [dots64, Bool.and_eq_true, decide_eq_true_eq] at h
 refine ⟨h.1, fun i hi => ?_⟩
 have := List.all_eq_true.1 h.2 (l.getD i 0) (by rw [getD_at l i (by omega)]; exact List.getElem_mem _)
 simpa [dotIn] using this
theorem blkL_dots (p : Pic) (x y : Int) : dots64 (blkL p x y 64) = true := by
 simp only [dots64, blkL_length, decide_true, Bool.true_and, List.all_eq_true]
 intro z hz
 obtain ⟨i, _, rfl⟩ := List.mem_map.1 hz
 simp only [dotIn, decide_eq_true_eq]
 exact dotAt_range _ _ _
theorem spec_BlockOf_eq {p : Pic} (ok : picOk p = true) (x y : Int) (hx : -1000 ≤ x ∧ x ≤ 1000) (hy : -1000 ≤ y ∧ y ≤ 1000) : spec_BlockOf p x y = some (blkL p x y 64) := by
 have hm : maxLen = 9223372036854775807 := rfl
 unfold spec_BlockOf
 rw [spec_PicOk_eq, bnd_s, ok, sel_t, spec_l01In_eq, bnd_s, sel_yes (by omega), spec_l01In_eq, bnd_s, bnd_s, decide_eq_true (by omega), Bool.not_true, sel_f]
 have key : ∀ i : Nat, i ≤ 64 → loop (spec_BlockOf_l2 p x y) ((i : Int), blkL p x y i) = some (blkL p x y 64) := by
  refine down_to _ ?_ ?_
  ·
   exact ldone (by unfold spec_BlockOf_l2; rw [sel_no (by simp)])
  ·
   intro i hi ih
   refine lgo (y := (((i + 1 : Nat) : Int), blkL p x y (i + 1))) ?_ ih
   unfold spec_BlockOf_l2
   simp only
   rw [sel_yes (by omega), req_p (by omega), req_p (by omega), tmod_pos (by omega), tdiv_pos (by omega), wk (e := (i : Int) / 8) (by omega) (by omega), wk (e := x + (i : Int) % 8) (by omega) (by omega), wk (e := y + (i : Int) / 8) (by omega) (by omega), spec_DotAt_eq ok, bnd_s, req_p (by rw [blkL_length]; simp only [List.length_singleton]; omega), wk (e := (i : Int) + 1) (by omega) (by omega)]
   have e2 : dotAt p (x + (i : Int) % 8) (y + (i : Int) / 8) = blkAt p x y i := by unfold blkAt; congr 1
   rw [e2, ← blkL_succ]
   rfl
 have := key 0 (by omega)
 exact (bnd_e this).trans rfl
theorem impl_block_eq {p : Pic} (ok : picOk p = true) (x y : Int) (hx : -1000 ≤ x ∧ x ≤ 1000) (hy : -1000 ≤ y ∧ y ≤ 1000) : impl_Pic_block p x y = some (blkL p x y 64) := by
 have hm : maxLen = 9223372036854775807 := rfl
 unfold impl_Pic_block
 rw [req_p (by omega)]
 have key : ∀ r : Nat, r ≤ 8 → loop (impl_Pic_block_l12 p x y) ((r : Int), blkL p x y (8 * r)) = some (blkL p x y 64) := by
  refine down_to _ ?_ ?_
  ·
   exact ldone (by unfold impl_Pic_block_l12; rw [sel_no (by simp)])
  ·
   intro r hr ih
   refine lgo (y := (((r + 1 : Nat) : Int), blkL p x y (8 * (r + 1)))) ?_ ih
   unfold impl_Pic_block_l12
   simp only
   have inner : ∀ c : Nat, c ≤ 8 → loop (impl_Pic_block_l14 p x y ((r : Int), blkL p x y (8 * r))) ((c : Int), blkL p x y (8 * r + c)) = some (blkL p x y (8 * (r + 1))) := by
    refine down_to _ ?_ ?_
    ·
     exact ldone (by unfold impl_Pic_block_l14; rw [sel_no (by simp)]; rfl)
    ·
     intro c hc ih2
     refine lgo (y := (((c + 1 : Nat) : Int), blkL p x y (8 * r + (c + 1)))) ?_ ih2
     unfold impl_Pic_block_l14
     simp only
     rw [sel_yes (by omega), wk (e := x + (c : Int)) (by omega) (by omega), wk (e := y + (r : Int)) (by omega) (by omega), impl_dot_eq ok, bnd_s, req_p (by rw [blkL_length]; simp only [List.length_singleton]; omega), wk (e := (c : Int) + 1) (by omega) (by omega)]
     have e2 : dotAt p (x + (c : Int)) (y + (r : Int)) = blkAt p x y (8 * r + c) := by
      unfold blkAt
      rw [show (8 * r + c) % 8 = c by omega, show (8 * r + c) / 8 = r by omega]
     rw [e2, ← blkL_succ]
     rfl
   have i0 := inner 0 (by omega)
   rw [sel_yes (by omega)]
   refine (bnd_e i0).trans ?_
   rw [wk (e := (r : Int) + 1) (by omega) (by omega)]
   rfl
 have := key 0 (by omega)
 exact (bnd_e this).trans rfl
theorem impl_areDots_eq (l : List Int) (hl : l.length ≤ 9223372036854775806) : impl_areIn l 64 0 255 = some (dots64 l) := by
 rw [impl_areIn_eq l _ _ _ hl]
 have : ((l.length : Int) == 64) = decide (l.length = 64) := by rw [Bool.eq_iff_iff]; simp only [beq_iff_eq, decide_eq_true_eq]; omega
 rw [this, Bool.and_comm]
 rfl
def heldAt (p : Pic) (x y : Int) : Bool := decide (0 ≤ x ∧ x ≤ p.Wide - 8 ∧ 0 ≤ y ∧ y ≤ p.High - 8)
theorem impl_isSquare_eq {p : Pic} (ok : picOk p = true) (x y : Int) (hx : x.tmod 8 = 0) (hy : y.tmod 8 = 0) (h : heldAt p x y = true) : impl_Pic_isSquare p x y = some true := by
 obtain ⟨k1, k2, k3⟩ := picOk_parts ok
 unfold heldAt at h
 rw [decide_eq_true_eq] at h
 unfold impl_Pic_isSquare
 rw [req_p (by omega), hx, req_p (by omega), hy, wk (e := p.Wide - 8) (by omega) (by omega), wk (e := p.High - 8) (by omega) (by omega), impl_within_eq, bnd_s, impl_within_eq, bnd_s, decide_eq_true (by omega), decide_eq_true (by omega)]
 rfl
theorem str_numsOf (s : ByteArray) : strOfNums (numsOf s) = s := by
 apply ByteArray.ext
 apply Array.ext'
 simp only [strOfNums, numsOf, List.map_map]
 conv => rhs; rw [← List.map_id s.data.toList]
 refine List.map_congr_left fun c _ => ?_
 simp
def inB (B : Int) (l : List Int) : Prop := ∀ x ∈ l, -B ≤ x ∧ x ≤ B
theorem inB_mono {B C : Int} {l : List Int} (h : inB B l) (hc : B ≤ C) : inB C l := fun x hx => by have := h x hx; omega
theorem inB_append {B : Int} {a b : List Int} (ha : inB B a) (hb : inB B b) : inB B (a ++ b) := fun x hx => (List.mem_append.1 hx).elim (ha x) (hb x)
theorem inB_nil (B : Int) : inB B [] := fun x hx => by simp at hx
theorem inB_one {B x : Int} (h : -B ≤ x ∧ x ≤ B) : inB B [x] := fun y hy => by rw [List.mem_singleton.1 hy]; exact h
theorem inB_set {B : Int} {l : List Int} (h : inB B l) (i : Nat) {y : Int} (hy : -B ≤ y ∧ y ≤ B) : inB B (l.set i y) := fun x hx => by
 rcases List.mem_or_eq_of_mem_set hx with hx | hx
 ·
  exact h x hx
 ·
  rw [hx]; exact hy
theorem inB_rep (n : Nat) {B : Int} (h : 0 ≤ B) : inB B (List.replicate n 0) := fun x hx => by rw [List.eq_of_mem_replicate hx]; omega
theorem inB_at {B : Int} {l : List Int} (h : inB B l) {i : Nat} (hi : i < l.length) : -B ≤ l.getD i 0 ∧ l.getD i 0 ≤ B := h _ (by rw [getD_at l i hi]; exact List.getElem_mem _)
theorem inB_take {B : Int} {l : List Int} (h : inB B l) (n : Nat) : inB B (l.take n) := fun x hx => h x (List.mem_of_mem_take hx)
theorem inB_drop {B : Int} {l : List Int} (h : inB B l) (n : Nat) : inB B (l.drop n) := fun x hx => h x (List.mem_of_mem_drop hx)
theorem st_loop {S : Type} {f : Int × S → Option (Lp (Int × S) S)} (n : Nat) (I : Nat → S → Prop) (hs : ∀ (i : Nat) (l : S), i < n → I i l → ∃ l', f ((i : Int), l) = some (.go (((i + 1 : Nat) : Int), l')) ∧ I (i + 1) l') (he : ∀ l, f ((n : Int), l) = some (.done l)) (l0 : S) (h0 : I 0 l0) : ∃ o, loop f (0, l0) = some o ∧ I n o := by
 have key : ∀ i : Nat, i ≤ n → ∀ l, I i l → ∃ o, loop f ((i : Int), l) = some o ∧ I n o := by
  refine down_to _ ?_ ?_
  ·
   intro l h; exact ⟨l, ldone (he l), h⟩
  ·
   intro i hi ih l h
   obtain ⟨l', e, h'⟩ := hs i l hi h
   obtain ⟨o, e2, h2⟩ := ih l' h'
   exact ⟨o, lgo e e2, h2⟩
 exact key 0 (by omega) l0 h0
theorem acc_loop {S : Type} {f : S × Int → Option (Lp (S × Int) S)} (n : Nat) (I : Nat → S → Prop) (hs : ∀ (i : Nat) (l : S), i < n → I i l → ∃ l', f (l, (i : Int)) = some (.go (l', ((i + 1 : Nat) : Int))) ∧ I (i + 1) l') (he : ∀ l, f (l, (n : Int)) = some (.done l)) (l0 : S) (h0 : I 0 l0) : ∃ o, loop f (l0, 0) = some o ∧ I n o := by
 have key : ∀ i : Nat, i ≤ n → ∀ l, I i l → ∃ o, loop f (l, (i : Int)) = some o ∧ I n o := by
  refine down_to _ ?_ ?_
  ·
   intro l h; exact ⟨l, ldone (he l), h⟩
  ·
   intro i hi ih l h
   obtain ⟨l', e, h'⟩ := hs i l hi h
   obtain ⟨o, e2, h2⟩ := ih l' h'
   exact ⟨o, lgo e e2, h2⟩
 exact key 0 (by omega) l0 h0
theorem getD_set_at (l : List Int) (i j : Nat) (y : Int) (hi : i < l.length) : (l.set i y).getD j 0 = if i = j then y else l.getD j 0 := by
 rw [List.getD_eq_getElem?_getD, List.getElem?_set, List.getD_eq_getElem?_getD]
 by_cases h : i = j
 ·
  subst h; rw [if_pos rfl, if_pos rfl, if_pos hi]; rfl
 ·
  rw [if_neg h, if_neg h]
theorem map_loop {f : Int × List Int → Option (Lp (Int × List Int) (List Int))} (n : Nat) (P Q : Int → Prop) (hs : ∀ (i : Nat) (l : List Int), i < n → l.length = n → P (l.getD i 0) → ∃ y, f ((i : Int), l) = some (.go (((i + 1 : Nat) : Int), l.set i y)) ∧ Q y) (he : ∀ l, f ((n : Int), l) = some (.done l)) (l0 : List Int) (h0 : l0.length = n) (hb : ∀ x ∈ l0, P x) : ∃ o, loop f (0, l0) = some o ∧ o.length = n ∧ ∀ x ∈ o, Q x := by
 obtain ⟨o, e, h1, h2, _⟩ := st_loop (f := f) n (fun i l => l.length = n ∧ (∀ j, j < i → Q (l.getD j 0)) ∧ ∀ j, i ≤ j → j < n → P (l.getD j 0)) (by
  intro i l hi ⟨g1, g2, g3⟩
  obtain ⟨y, e, hy⟩ := hs i l hi g1 (g3 i (Nat.le_refl _) hi)
  refine ⟨_, e, by rw [List.length_set]; exact g1, fun j hj => ?_, fun j hj hj2 => ?_⟩
  ·
   rw [getD_set_at l i j y (by omega)]
   by_cases h : i = j
   ·
    rw [if_pos h]; exact hy
   ·
    rw [if_neg h]; exact g2 j (by omega)
  ·
   rw [getD_set_at l i j y (by omega), if_neg (by omega)]; exact g3 j (by omega) hj2) he l0 ⟨h0, fun j hj => by omega, fun j _ hj => hb _ (by rw [getD_at l0 j (by omega)]; exact List.getElem_mem _)⟩
 refine ⟨o, e, h1, fun x hx => ?_⟩
 obtain ⟨j, hj, rfl⟩ := List.getElem_of_mem hx
 have := h2 j (by omega)
 rwa [getD_at o j hj] at this
theorem l09All_yes (l : List Int) (n B : Int) (hn : (l.length : Int) = n) (hn2 : n ≤ 1000000) (hB : 0 ≤ B ∧ B ≤ 100000000) (h : inB B l) : spec_l09All l n B = some true := by
 unfold spec_l09All
 rw [sel_neg (by simp only [bne_eq_false_iff_eq]; exact hn), self_loop l.length (f := spec_l09All_l2 l n B) (by
  intro i hi
  have := inB_at h hi
  unfold spec_l09All_l2
  rw [sel_yes (by omega), req_p (by omega), wk (e := 0 - B) (by omega) (by omega), spec_l01In_eq, bnd_s, Int.toNat_natCast, decide_eq_true (by omega), Bool.not_true, sel_f, wk (by omega) (by omega)]
  rfl) (by unfold spec_l09All_l2; rw [sel_no (by omega)]), bnd_s]
def scanInner (n i : Int) (v17 : Int × Int) : Option (Lp (Int × Int) (Ou Unit Int)) :=
 sel (decide (v17.2 ≤ (wrapK .i64 ((wrapK .i64 (2 * n)) - 2)))) (
 bnd (it (spec_ScanAt_l14 n i v17) 20 (v17.1, 0)) fun o47 => match o47 with
 | .out v43 => (
 some (.go (v43, wrapK .i64 (v17.2 + 1))))
 | .ret r => some (.done (.ret r))) (
 some (.done (.out ())))
theorem scanInner_is {n i : Int} {v : Int × Int} {x : Lp (Int × Int) (Ou Unit Int)} (h : scanInner n i v = some x) : spec_ScanAt_l12 n i v = some x := by
 unfold scanInner at h
 unfold spec_ScanAt_l12
 rcases sel_some h with ⟨hb, h⟩ | ⟨hb, h⟩
 ·
  rw [hb, sel_t]
  obtain ⟨a, h1, h2⟩ := bnd_some h
  rw [loop_it.2 ⟨20, h1⟩, bnd_s]
  exact h2
 ·
  rw [hb, sel_f]; exact h
theorem it_of {V O : Type} {f g : V → Option (Lp V O)} (hf : ∀ v y, f v = some y → g v = some y) {o : O} : ∀ (k : Nat) (v : V), it f k v = some o → it g k v = some o
 | 0, v, h => by cases h
 | k + 1, v, h => by
  rw [it] at h ⊢
  cases e : f v with
  | none => rw [e] at h; cases h
  | some s =>
   rw [e] at h
   rw [hf v s e]
   cases s with
   | go y => exact it_of hf k y h
   | done o' => exact h
def scanPlace (n i : Int) : Int := match it (scanInner n i) 20 (0, 0) with | some (.ret q) => q | _ => -1
theorem scan4_ok : ∀ i : Fin 16, (0 ≤ scanPlace 4 (i.val : Int) ∧ scanPlace 4 (i.val : Int) < 16) := by decide +kernel
theorem scan8_ok : ∀ i : Fin 64, (0 ≤ scanPlace 8 (i.val : Int) ∧ scanPlace 8 (i.val : Int) < 64) := by decide +kernel
theorem scanPlace_in (n : Int) (hn : n = 4 ∨ n = 8) (i : Nat) (hi : (i : Int) < n * n) : 0 ≤ scanPlace n i ∧ scanPlace n i < n * n := by
 rcases hn with rfl | rfl
 ·
  exact scan4_ok ⟨i, by omega⟩
 ·
  exact scan8_ok ⟨i, by omega⟩
theorem spec_ScanAt_ev (n : Int) (hn : n = 4 ∨ n = 8) (i : Nat) (hi : (i : Int) < n * n) : spec_ScanAt n i = some (scanPlace n i) := by
 have hp := scanPlace_in n hn i hi
 unfold spec_ScanAt
 have hw : wrapK .i64 (n * n) = n * n := by rcases hn with rfl | rfl <;> exact wk (by omega) (by omega)
 have hc : (sel (n != 4) (sel (n != 8) (some true) (sel (decide ((i : Int) < 0)) (some true) (some (decide ((i : Int) ≥ (wrapK .i64 (n * n))))))) (sel (decide ((i : Int) < 0)) (some true) (some (decide ((i : Int) ≥ (wrapK .i64 (n * n))))))) = some false := by
  rw [hw, sel_no (show ¬ (i : Int) < 0 by omega), decide_eq_false (show ¬ (i : Int) ≥ n * n by omega)]
  rcases hn with rfl | rfl <;> rfl
 rw [hc, bnd_s, sel_f]
 unfold scanPlace at hp ⊢
 cases e : it (scanInner n i) 20 (0, 0) with
 | none => rw [e] at hp; simp only at hp; omega
 | some s =>
  rw [e] at hp
  have h := it_of (fun v y => scanInner_is (n := n) (i := i)) 20 _ e
  rw [loop_it.2 ⟨20, h⟩, bnd_s]
  cases s with
  | out u => simp only at hp; omega
  | ret q => rfl
theorem spec_Unscanned_ev (n : Int) (hn : n = 4 ∨ n = 8) (l : List Int) (B : Int) (hB : 0 ≤ B) (hl : (l.length : Int) = n * n) (hb : inB B l) : ∃ o, spec_Unscanned n l = some (o, true) ∧ o.length = l.length ∧ inB B o := by
 have hm : maxLen = 9223372036854775807 := rfl
 have hw : wrapK .i64 (n * n) = n * n := by rcases hn with rfl | rfl <;> exact wk (by omega) (by omega)
 have hl2 : l.length ≤ 64 := by rcases hn with rfl | rfl <;> omega
 unfold spec_Unscanned
 have hc : (sel (n != 4) (sel (n != 8) (some true) (some ((l.length : Int) != (wrapK .i64 (n * n))))) (some ((l.length : Int) != (wrapK .i64 (n * n))))) = some false := by
  rw [hw, hl, bne_self_eq_false]
  rcases hn with rfl | rfl <;> rfl
 rw [hc, bnd_s, sel_f, req_p (by omega), Int.toNat_natCast]
 obtain ⟨o, e, h1, h2⟩ := st_loop (f := spec_Unscanned_l2 n l) l.length (fun i s => s.length = l.length ∧ inB B s) (by
  intro i s hi ⟨g1, g2⟩
  have hp := scanPlace_in n hn i (by omega)
  have ha := inB_at hb hi
  unfold spec_Unscanned_l2
  simp only
  rw [hw, sel_yes (by omega), spec_ScanAt_ev n hn i (by omega), bnd_s, req_p (by omega), req_p (by omega), req_p (by omega), wk (by omega) (by omega), Int.toNat_natCast]
  exact ⟨_, rfl, by rw [List.length_set]; exact g1, inB_set g2 _ ha⟩) (by intro s; unfold spec_Unscanned_l2; simp only; rw [hw, sel_no (by omega)]) (List.replicate l.length 0) ⟨List.length_replicate, inB_rep _ hB⟩
 exact ⟨o, (bnd_e e).trans rfl, h1, h2⟩
def signPlace (u v : Int) : Int := match it spec_SignOf_l2 10 (1, (IntKind.wrap .i64 (BitVec.ofInt (IntKind.bits .i64) u &&& BitVec.ofInt (IntKind.bits .i64) v).toNat)) with | some q => q | none => 7
theorem sign_ok : ∀ u v : Fin 8, (-1 ≤ signPlace (u.val : Int) (v.val : Int) ∧ signPlace (u.val : Int) (v.val : Int) ≤ 1) := by decide +kernel
theorem spec_SignOf_ev (u v : Nat) (hu : u < 8) (hv : v < 8) : ∃ s, spec_SignOf u v = some s ∧ -1 ≤ s ∧ s ≤ 1 := by
 have h := sign_ok ⟨u, hu⟩ ⟨v, hv⟩
 simp only at h
 unfold spec_SignOf
 rw [spec_l01In_eq, bnd_s, decide_eq_true (by omega), sel_t, spec_l01In_eq, bnd_s, decide_eq_true (by omega), Bool.not_true, bnd_s, sel_f]
 unfold signPlace at h
 cases e : it spec_SignOf_l2 10 (1, (IntKind.wrap .i64 (BitVec.ofInt (IntKind.bits .i64) (u : Int) &&& BitVec.ofInt (IntKind.bits .i64) (v : Int)).toNat)) with
 | none => rw [e] at h; simp only at h; omega
 | some q =>
  rw [e] at h
  rw [loop_it.2 ⟨10, e⟩, bnd_s]
  exact ⟨q, rfl, h⟩
def stepBase (qp : Int) : Int := if qp.tmod 6 = 0 then 10 else if qp.tmod 6 = 1 then 11 else if qp.tmod 6 = 2 then 13 else if qp.tmod 6 = 3 then 14 else if qp.tmod 6 = 4 then 16 else 18
def stepPlace (qp : Int) : Int := match it (spec_StepOf_l2 qp) 10 (stepBase qp, 0) with | some q => q | none => 0
theorem step_ok : ∀ q : Fin 41, (10 ≤ stepPlace (q.val : Int) ∧ stepPlace (q.val : Int) ≤ 1152) := by decide +kernel
theorem spec_StepOf_ev (qp : Int) (h0 : 0 ≤ qp ∧ qp ≤ 40) : ∃ s, spec_StepOf qp = some s ∧ 10 ≤ s ∧ s ≤ 1152 := by
 have h := step_ok ⟨qp.toNat, by omega⟩
 simp only at h
 rw [show ((qp.toNat : Nat) : Int) = qp by omega] at h
 unfold spec_StepOf
 rw [spec_l01In_eq, bnd_s, decide_eq_true (by omega), Bool.not_true, sel_f, req_p (by omega)]
 have hb : (sel ((qp.tmod 6) == 0) (some (10 : Int)) (sel ((qp.tmod 6) == 1) (some 11) (sel ((qp.tmod 6) == 2) (some 13) (sel ((qp.tmod 6) == 3) (some 14) (sel ((qp.tmod 6) == 4) (some 16) (some 18)))))) = some (stepBase qp) := by
  unfold stepBase
  simp only [sel_ite, beq_iff_eq]
  repeat' split
  all_goals rfl
 rw [hb, bnd_s]
 unfold stepPlace at h
 cases e : it (spec_StepOf_l2 qp) 10 (stepBase qp, 0) with
 | none => rw [e] at h; simp only at h; omega
 | some q =>
  rw [e] at h
  rw [loop_it.2 ⟨10, e⟩, bnd_s]
  exact ⟨q, rfl, h⟩
theorem spec_KindOf_ev (p : Int) (h : 0 ≤ p ∧ p ≤ 15) : ∃ k, spec_KindOf p = some k ∧ 0 ≤ k ∧ k ≤ 2 := by
 unfold spec_KindOf
 rw [spec_l01In_eq, bnd_s, decide_eq_true h, Bool.not_true, sel_f, req_p (by omega), req_p (by omega), req_p (by omega), req_p (by omega), sel_and, bnd_s]
 cases ((wrapK .i64 (p.tdiv 4)).tmod 2 == 0 && (p.tmod 4).tmod 2 == 0) with
 | true => exact ⟨0, rfl, by omega, by omega⟩
 | false =>
  rw [sel_f, sel_and, bnd_s]
  cases ((wrapK .i64 (p.tdiv 4)).tmod 2 == 1 && (p.tmod 4).tmod 2 == 1) with
  | true => exact ⟨1, rfl, by omega, by omega⟩
  | false => exact ⟨2, rfl, by omega, by omega⟩
theorem spec_l08Pick_ev (k a b c : Int) : ∃ x, spec_l08Pick k a b c = some x ∧ (x = a ∨ x = b ∨ x = c) := by
 unfold spec_l08Pick
 cases (k == 0) with
 | true => exact ⟨a, rfl, Or.inl rfl⟩
 | false =>
  cases (k == 1) with
  | true => exact ⟨b, rfl, Or.inr (Or.inl rfl)⟩
  | false => exact ⟨c, rfl, Or.inr (Or.inr rfl)⟩
theorem scale_loop (qp : Int) (h0 : 0 ≤ qp ∧ qp ≤ 40) (x : Int) (hx : 0 ≤ x ∧ x ≤ 29) : ∃ o, loop (spec_ScaleOf_l2 qp) (x, 0) = some o ∧ 0 ≤ o ∧ o ≤ 1856 := by
 obtain ⟨o, e, h1, h2⟩ := acc_loop (f := spec_ScaleOf_l2 qp) (qp / 6).toNat (fun i s => 0 ≤ s ∧ s ≤ 29 * 2 ^ i) (by
  intro i s hi ⟨g1, g2⟩
  have h6 : (2 : Int) ^ i ≤ 64 := by
   have : i ≤ 6 := by omega
   obtain rfl | rfl | rfl | rfl | rfl | rfl | rfl : i = 0 ∨ i = 1 ∨ i = 2 ∨ i = 3 ∨ i = 4 ∨ i = 5 ∨ i = 6 := by omega
   all_goals decide
  have h7 : (2 : Int) ^ (i + 1) = 2 * 2 ^ i := by rw [Int.pow_succ, Int.mul_comm]
  unfold spec_ScaleOf_l2
  simp only
  rw [req_p (by omega), tdiv_pos (by omega), wk (e := qp / 6) (by omega) (by omega), sel_yes (by omega), wk (e := 2 * s) (by omega) (by omega), wk (e := (i : Int) + 1) (by omega) (by omega)]
  exact ⟨_, rfl, by omega, by rw [h7]; omega⟩) (by intro s; unfold spec_ScaleOf_l2; simp only; rw [req_p (by omega), tdiv_pos (by omega), wk (e := qp / 6) (by omega) (by omega), sel_no (by omega)]) x ⟨hx.1, by simp; omega⟩
 have h6 : (2 : Int) ^ (qp / 6).toNat ≤ 64 := by
  generalize hi : (qp / 6).toNat = i
  obtain rfl | rfl | rfl | rfl | rfl | rfl | rfl : i = 0 ∨ i = 1 ∨ i = 2 ∨ i = 3 ∨ i = 4 ∨ i = 5 ∨ i = 6 := by omega
  all_goals decide
 exact ⟨o, e, h1, by omega⟩
theorem spec_ScaleOf_ev (qp p : Int) (h0 : 0 ≤ qp ∧ qp ≤ 40) (hp : 0 ≤ p ∧ p ≤ 15) : ∃ s, spec_ScaleOf qp p = some s ∧ 0 ≤ s ∧ s ≤ 1856 := by
 unfold spec_ScaleOf
 obtain ⟨k, e, k0, k1⟩ := spec_KindOf_ev p hp
 rw [e, bnd_s, spec_l01In_eq, bnd_s, decide_eq_true h0, sel_t, decide_eq_false (by omega), bnd_s, sel_f, req_p (by omega)]
 obtain ⟨a1, e1, b1⟩ := spec_l08Pick_ev k 10 16 13
 obtain ⟨a2, e2, b2⟩ := spec_l08Pick_ev k 11 18 14
 obtain ⟨a3, e3, b3⟩ := spec_l08Pick_ev k 13 20 16
 obtain ⟨a4, e4, b4⟩ := spec_l08Pick_ev k 14 23 18
 obtain ⟨a5, e5, b5⟩ := spec_l08Pick_ev k 16 25 20
 obtain ⟨a6, e6, b6⟩ := spec_l08Pick_ev k 18 29 23
 rw [e1, e2, e3, e4, e5, e6]
 simp only [bnd_s, sel_ss]
 obtain ⟨o, eo, o1, o2⟩ := scale_loop qp h0 (sel (qp.tmod 6 == 0) a1 (sel (qp.tmod 6 == 1) a2 (sel (qp.tmod 6 == 2) a3 (sel (qp.tmod 6 == 3) a4 (sel (qp.tmod 6 == 4) a5 (sel (qp.tmod 6 == 5) a6 0)))))) (by
  simp only [sel_ite]
  repeat' split
  all_goals omega)
 exact ⟨o, (bnd_e eo).trans rfl, o1, o2⟩
theorem mul_sign {a s B : Int} (ha : -B ≤ a ∧ a ≤ B) (hs : -1 ≤ s ∧ s ≤ 1) : (-B ≤ a * s ∧ a * s ≤ B) ∧ (-B ≤ s * a ∧ s * a ≤ B) := by
 obtain rfl | rfl | rfl : s = -1 ∨ s = 0 ∨ s = 1 := by omega
 all_goals omega
theorem spec_l10Row_ev (p : List Int) (B : Int) (hB : 0 ≤ B ∧ B ≤ 1000000000000) (hl : p.length = 64) (hb : inB B p) (i v : Nat) (hi : i < 8) (hv : v < 8) : ∃ o, spec_l10Row p i v = some o ∧ -(8 * B) ≤ o ∧ o ≤ 8 * B := by
 unfold spec_l10Row
 obtain ⟨o, e, h1, h2⟩ := acc_loop (f := spec_l10Row_l2 p i v) 8 (fun k s => -(B * k) ≤ s ∧ s ≤ B * k) (by
  intro k s hk ⟨g1, g2⟩
  obtain ⟨q, eq, q0, q1⟩ := spec_SignOf_ev v k hv hk
  have ha := inB_at hb (i := 8 * i + k) (by omega)
  have hm := (mul_sign ha ⟨q0, q1⟩).1
  have hk8 : B * k ≤ B * 8 := Int.mul_le_mul_of_nonneg_left (by omega) hB.1
  have hk0 : B * ((k + 1 : Nat) : Int) = B * k + B := by rw [Int.natCast_add, Int.mul_add]; simp
  unfold spec_l10Row_l2
  simp only
  rw [sel_yes (by omega), wk (e := 8 * (i : Int)) (by omega) (by omega), wk (e := 8 * (i : Int) + (k : Int)) (by omega) (by omega), req_p (by omega), eq, bnd_s, show (8 * (i : Int) + (k : Int)).toNat = 8 * i + k by omega, wk (e := p.getD (8 * i + k) 0 * q) (by omega) (by omega), wk (e := s + p.getD (8 * i + k) 0 * q) (by omega) (by omega), wk (e := (k : Int) + 1) (by omega) (by omega)]
  exact ⟨_, rfl, by rw [hk0]; omega, by rw [hk0]; omega⟩) (by intro s; unfold spec_l10Row_l2; rw [sel_no (by simp)]) 0 (by simp)
 exact ⟨o, (bnd_e e).trans rfl, by omega, by omega⟩
theorem spec_l10Sums_ev (p : List Int) (B : Int) (hB : 0 ≤ B ∧ B ≤ 10000000000) (hl : p.length = 64) (hb : inB B p) : ∃ o, spec_l10Sums p = some o ∧ o.length = 64 ∧ inB (64 * B) o := by
 have hm : maxLen = 9223372036854775807 := rfl
 unfold spec_l10Sums
 obtain ⟨h, eh, hh1, hh2⟩ := st_loop (f := spec_l10Sums_l12 p) 8 (fun i s => s.length = 8 * i ∧ inB (8 * B) s) (by
  intro i s hi ⟨g1, g2⟩
  obtain ⟨t, et, t1, t2⟩ := st_loop (f := spec_l10Sums_l14 p ((i : Int), s)) 8 (fun v s => s.length = 8 * i + v ∧ inB (8 * B) s) (by
   intro v s hv ⟨g1, g2⟩
   obtain ⟨r, er, r1, r2⟩ := spec_l10Row_ev p B ⟨hB.1, by omega⟩ hl hb i v hi hv
   unfold spec_l10Sums_l14
   simp only
   rw [sel_yes (by omega), er, bnd_s, req_p (by simp only [List.length_singleton]; omega), wk (e := (v : Int) + 1) (by omega) (by omega)]
   exact ⟨_, rfl, by simp; omega, inB_append g2 (inB_one ⟨by omega, r2⟩)⟩) (by intro s; unfold spec_l10Sums_l14; rw [sel_no (by simp)]) s ⟨by omega, g2⟩
  unfold spec_l10Sums_l12
  simp only
  rw [sel_yes (by omega), et, bnd_s, wk (e := (i : Int) + 1) (by omega) (by omega)]
  exact ⟨_, rfl, by omega, t2⟩) (by intro s; unfold spec_l10Sums_l12; rw [sel_no (by simp)]) [] ⟨rfl, inB_nil _⟩
 rw [eh, bnd_s]
 obtain ⟨o, eo, o1, o2⟩ := st_loop (f := spec_l10Sums_l146 h) 8 (fun i s => s.length = 8 * i ∧ inB (64 * B) s) (by
  intro i s hi ⟨g1, g2⟩
  obtain ⟨t, et, t1, t2⟩ := st_loop (f := spec_l10Sums_l168 h ((i : Int), s)) 8 (fun v s => s.length = 8 * i + v ∧ inB (64 * B) s) (by
   intro v r hv ⟨g1, g2⟩
   obtain ⟨a, ea, a1, a2⟩ := acc_loop (f := spec_l10Sums_l172 h ((i : Int), s) ((v : Int), r)) 8 (fun k s => -(8 * B * k) ≤ s ∧ s ≤ 8 * B * k) (by
    intro k c hk ⟨g1, g2⟩
    obtain ⟨q, eq, q0, q1⟩ := spec_SignOf_ev i k hi hk
    have ha := inB_at hh2 (i := 8 * k + v) (by omega)
    have hm := (mul_sign ha ⟨q0, q1⟩).2
    have hk8 : 8 * B * k ≤ 8 * B * 8 := Int.mul_le_mul_of_nonneg_left (by omega) (by omega)
    have hk0 : 8 * B * ((k + 1 : Nat) : Int) = 8 * B * k + 8 * B := by rw [Int.natCast_add, Int.mul_add]; simp
    unfold spec_l10Sums_l172
    simp only
    rw [sel_yes (by omega), eq, bnd_s, wk (e := 8 * (k : Int)) (by omega) (by omega), wk (e := 8 * (k : Int) + (v : Int)) (by omega) (by omega), req_p (by omega), req_p (by omega), show (8 * (k : Int) + (v : Int)).toNat = 8 * k + v by omega, wk (e := q * h.getD (8 * k + v) 0) (by omega) (by omega), wk (e := c + q * h.getD (8 * k + v) 0) (by omega) (by omega), wk (e := (k : Int) + 1) (by omega) (by omega)]
    exact ⟨_, rfl, by rw [hk0]; omega, by rw [hk0]; omega⟩) (by intro s; unfold spec_l10Sums_l172; rw [sel_no (by simp)]) 0 (by simp)
   unfold spec_l10Sums_l168
   simp only
   rw [sel_yes (by omega), ea, bnd_s, req_p (by simp only [List.length_singleton]; omega), wk (e := (v : Int) + 1) (by omega) (by omega)]
   exact ⟨_, rfl, by simp; omega, inB_append g2 (inB_one ⟨by omega, by omega⟩)⟩) (by intro s; unfold spec_l10Sums_l168; rw [sel_no (by simp)]) s ⟨by omega, g2⟩
  unfold spec_l10Sums_l146
  simp only
  rw [sel_yes (by omega), et, bnd_s, wk (e := (i : Int) + 1) (by omega) (by omega)]
  exact ⟨_, rfl, by omega, t2⟩) (by intro s; unfold spec_l10Sums_l146; rw [sel_no (by simp)]) [] ⟨rfl, inB_nil _⟩
 exact ⟨o, (bnd_e eo).trans rfl, by omega, o2⟩
theorem spec_l09Down_ev (a b : Int) (ha : -1000000000000 ≤ a ∧ a ≤ 1000000000000) (hb : b = 2 ∨ b = 64) : ∃ d, spec_l09Down a b = some d ∧ b * d ≤ a ∧ a < b * d + b := by
 unfold spec_l09Down
 have h1 : b * (a.tdiv b) + a.tmod b = a := Int.mul_tdiv_add_tmod a b
 have h2 : -b < a.tmod b ∧ a.tmod b < b := by
  have hb0 : 0 < b := by omega
  refine ⟨?_, Int.tmod_lt_of_pos a hb0⟩
  have := Int.lt_tmod_of_pos a hb0
  omega
 rw [req_p (by omega), req_p (by omega)]
 generalize a.tmod b = m at h1 h2
 generalize a.tdiv b = t at h1 h2
 have ht : -1000000000001 ≤ t ∧ t ≤ 1000000000001 := by rcases hb with rfl | rfl <;> omega
 by_cases h : m < 0
 ·
  rw [sel_yes h, bnd_s, wk (e := t) (by omega) (by omega), wk (e := t - 1) (by omega) (by omega)]
  refine ⟨_, rfl, ?_⟩
  rcases hb with rfl | rfl <;> omega
 ·
  rw [sel_no h, bnd_s, wk (e := t) (by omega) (by omega)]
  refine ⟨_, rfl, ?_⟩
  rcases hb with rfl | rfl <;> omega
theorem spec_EightBack_ev (p : List Int) (hl : p.length = 64) (hb : inB 5760000 p) : ∃ o, spec_EightBack p = some o ∧ o.length = 64 ∧ inB 10000000 o := by
 unfold spec_EightBack
 obtain ⟨o, e, h1, h2⟩ := spec_l10Sums_ev p 5760000 (by omega) hl hb
 rw [l09All_yes p 64 10000000 (by omega) (by omega) (by omega) (inB_mono hb (by omega)), bnd_s, Bool.not_true, sel_f, e, bnd_s]
 obtain ⟨r, er, r1, r2⟩ := map_loop (f := spec_EightBack_l2) 64 (fun x => -368640000 ≤ x ∧ x ≤ 368640000) (fun x => -10000000 ≤ x ∧ x ≤ 10000000) (by
  intro i l hi hll hx
  obtain ⟨d, ed, d1, d2⟩ := spec_l09Down_ev (l.getD i 0 + 32) 64 (by omega) (Or.inr rfl)
  unfold spec_EightBack_l2
  simp only [Int.toNat_natCast]
  rw [sel_yes (by omega), req_p (by omega), req_p (by omega), wk (e := l.getD i 0 + 32) (by omega) (by omega), ed, bnd_s, req_p (by omega), req_p (by omega), wk (e := (i : Int) + 1) (by omega) (by omega)]
  exact ⟨d, rfl, by omega, by omega⟩) (by intro s; unfold spec_EightBack_l2; rw [sel_no (by simp)]) o h1 (fun x hx => by have := h2 x hx; omega)
 exact ⟨r, (bnd_e er).trans rfl, r1, r2⟩
theorem spec_l09Flip_ev (p : List Int) (B : Int) (hB : 0 ≤ B) (hl : p.length = 16) (hb : inB B p) : ∃ o, spec_l09Flip p = some o ∧ o.length = 16 ∧ inB B o := by
 unfold spec_l09Flip
 rw [req_p (by omega)]
 obtain ⟨o, e, h1, h2⟩ := st_loop (f := spec_l09Flip_l2 p) 16 (fun i s => s.length = 16 ∧ inB B s) (by
  intro i s hi ⟨g1, g2⟩
  have ha := inB_at hb (i := i) (by omega)
  unfold spec_l09Flip_l2
  simp only
  rw [sel_yes (by omega), req_p (by omega), req_p (by omega), req_p (by omega), tmod_pos (by omega), tdiv_pos (by omega), wk (e := (i : Int) / 4) (by omega) (by omega), wk (e := (i : Int) % 4 * 4) (by omega) (by omega), wk (e := (i : Int) % 4 * 4 + (i : Int) / 4) (by omega) (by omega), req_p (by omega), req_p (by omega), wk (e := (i : Int) + 1) (by omega) (by omega), Int.toNat_natCast]
  exact ⟨_, rfl, by rw [List.length_set]; exact g1, inB_set g2 _ ha⟩) (by intro s; unfold spec_l09Flip_l2; rw [sel_no (by simp)]) (List.replicate (16 : Int).toNat 0) ⟨by simp, inB_rep _ hB⟩
 exact ⟨o, (bnd_e e).trans rfl, h1, h2⟩
theorem inB_four {B a b c d : Int} (h1 : -B ≤ a ∧ a ≤ B) (h2 : -B ≤ b ∧ b ≤ B) (h3 : -B ≤ c ∧ c ≤ B) (h4 : -B ≤ d ∧ d ≤ B) : inB B [a, b, c, d] := fun x hx => by
 simp only [List.mem_cons, List.not_mem_nil, or_false] at hx
 rcases hx with rfl | rfl | rfl | rfl
 ·
  exact h1
 ·
  exact h2
 ·
  exact h3
 ·
  exact h4
theorem spec_l09Backs_ev (p : List Int) (B : Int) (hB : 0 ≤ B ∧ B ≤ 1000000000) (hl : p.length = 16) (hb : inB B p) : ∃ o, spec_l09Backs p = some o ∧ o.length = 16 ∧ inB (4 * B + 2) o := by
 have hm : maxLen = 9223372036854775807 := rfl
 unfold spec_l09Backs
 obtain ⟨o, e, h1, h2⟩ := st_loop (f := spec_l09Backs_l2 p) 4 (fun i s => s.length = 4 * i ∧ inB (4 * B + 2) s) (by
  intro i s hi ⟨g1, g2⟩
  have a0 := inB_at hb (i := 4 * i) (by omega)
  have a1 := inB_at hb (i := 4 * i + 1) (by omega)
  have a2 := inB_at hb (i := 4 * i + 2) (by omega)
  have a3 := inB_at hb (i := 4 * i + 3) (by omega)
  obtain ⟨f, ef, f1, f2⟩ := spec_l09Down_ev (p.getD (4 * i + 1) 0) 2 (by omega) (Or.inl rfl)
  obtain ⟨g, eg, g1', g2'⟩ := spec_l09Down_ev (p.getD (4 * i + 3) 0) 2 (by omega) (Or.inl rfl)
  unfold spec_l09Backs_l2
  simp only
  rw [sel_yes (by omega), wk (e := 4 * (i : Int)) (by omega) (by omega), wk (e := 4 * (i : Int) + 1) (by omega) (by omega), wk (e := 4 * (i : Int) + 2) (by omega) (by omega), wk (e := 4 * (i : Int) + 3) (by omega) (by omega), req_p (by omega), req_p (by omega), req_p (by omega), req_p (by omega), show (4 * (i : Int)).toNat = 4 * i by omega, show (4 * (i : Int) + 1).toNat = 4 * i + 1 by omega, show (4 * (i : Int) + 2).toNat = 4 * i + 2 by omega, show (4 * (i : Int) + 3).toNat = 4 * i + 3 by omega, ef, bnd_s, eg, bnd_s]
  generalize p.getD (4 * i) 0 = a at *
  generalize p.getD (4 * i + 1) 0 = b at *
  generalize p.getD (4 * i + 2) 0 = c at *
  generalize p.getD (4 * i + 3) 0 = d at *
  rw [wk (e := (i : Int) + 1) (by omega) (by omega), wk (e := a + c) (by omega) (by omega), wk (e := a - c) (by omega) (by omega), wk (e := b + g) (by omega) (by omega), wk (e := f - d) (by omega) (by omega), wk (e := a + c + (b + g)) (by omega) (by omega), wk (e := a - c + (f - d)) (by omega) (by omega), wk (e := a - c - (f - d)) (by omega) (by omega), wk (e := a + c - (b + g)) (by omega) (by omega), req_p (by simp only [List.length_cons, List.length_nil]; omega)]
  exact ⟨_, rfl, by simp; omega, inB_append g2 (inB_four (by omega) (by omega) (by omega) (by omega))⟩) (by intro s; unfold spec_l09Backs_l2; rw [sel_no (by simp)]) [] ⟨rfl, inB_nil _⟩
 exact ⟨o, (bnd_e e).trans rfl, h1, h2⟩
theorem spec_FourBack_ev (p : List Int) (hl : p.length = 16) (hb : inB 10000000 p) : ∃ o, spec_FourBack p = some o ∧ o.length = 16 ∧ inB 10000000 o := by
 unfold spec_FourBack
 obtain ⟨a, ea, a1, a2⟩ := spec_l09Backs_ev p 10000000 (by omega) hl hb
 obtain ⟨b, eb, b1, b2⟩ := spec_l09Flip_ev a _ (by omega) a1 a2
 obtain ⟨c, ec, c1, c2⟩ := spec_l09Backs_ev b _ (by omega) b1 b2
 obtain ⟨d, ed, d1, d2⟩ := spec_l09Flip_ev c _ (by omega) c1 c2
 rw [l09All_yes p 16 10000000 (by omega) (by omega) (by omega) hb, bnd_s, Bool.not_true, sel_f, ea, bnd_s, eb, bnd_s, ec, bnd_s, ed, bnd_s]
 obtain ⟨r, er, r1, r2⟩ := map_loop (f := spec_FourBack_l2) 16 (fun x => -160000010 ≤ x ∧ x ≤ 160000010) (fun x => -10000000 ≤ x ∧ x ≤ 10000000) (by
  intro i l hi hll hx
  obtain ⟨d, ed, d1, d2⟩ := spec_l09Down_ev (l.getD i 0 + 32) 64 (by omega) (Or.inr rfl)
  unfold spec_FourBack_l2
  simp only [Int.toNat_natCast]
  rw [sel_yes (by omega), req_p (by omega), req_p (by omega), wk (e := l.getD i 0 + 32) (by omega) (by omega), ed, bnd_s, req_p (by omega), req_p (by omega), wk (e := (i : Int) + 1) (by omega) (by omega)]
  exact ⟨d, rfl, by omega, by omega⟩) (by intro s; unfold spec_FourBack_l2; rw [sel_no (by simp)]) d d1 (fun x hx => by have := d2 x hx; omega)
 exact ⟨r, (bnd_e er).trans rfl, r1, r2⟩
theorem spec_SmallBack_ev (l qp p : Int) (hl : -5000 ≤ l ∧ l ≤ 5000) (h0 : 0 ≤ qp ∧ qp ≤ 40) (hp : 0 ≤ p ∧ p ≤ 15) : ∃ o, spec_SmallBack l qp p = some o ∧ -10000000 ≤ o ∧ o ≤ 10000000 := by
 unfold spec_SmallBack
 obtain ⟨s, es, q0, q1⟩ := spec_ScaleOf_ev qp p h0 hp
 rw [spec_l01In_eq, bnd_s, decide_eq_true hl, Bool.not_true, sel_f, es, bnd_s]
 have m1 : l * s ≤ 5000 * s := Int.mul_le_mul_of_nonneg_right hl.2 q0
 have m2 : -5000 * s ≤ l * s := Int.mul_le_mul_of_nonneg_right hl.1 q0
 rw [wk (by omega) (by omega)]
 exact ⟨_, rfl, by omega, by omega⟩
theorem spec_LargeBack_ev (l qp : Int) (hl : -5000 ≤ l ∧ l ≤ 5000) (h0 : 0 ≤ qp ∧ qp ≤ 40) : ∃ o, spec_LargeBack l qp = some o ∧ -5760000 ≤ o ∧ o ≤ 5760000 := by
 unfold spec_LargeBack
 obtain ⟨s, es, q0, q1⟩ := spec_StepOf_ev qp h0
 rw [spec_l01In_eq, bnd_s, decide_eq_true hl, Bool.not_true, sel_f, es, bnd_s]
 have m1 : l * s ≤ 5000 * s := Int.mul_le_mul_of_nonneg_right hl.2 (by omega)
 have m2 : -5000 * s ≤ l * s := Int.mul_le_mul_of_nonneg_right hl.1 (by omega)
 rw [wk (by omega) (by omega)]
 exact ⟨_, rfl, by omega, by omega⟩
theorem lv64_in {l : List Int} (h : lv64 l = true) : l.length = 64 ∧ inB 5000 l := by
 obtain ⟨h1, h2⟩ := lv64_parts h
 refine ⟨h1, fun x hx => ?_⟩
 have := List.all_eq_true.1 h2 x hx
 unfold lvIn at this
 rwa [decide_eq_true_eq] at this
theorem condOk_qp {c : Cond} (h : condOk c = true) : 0 ≤ c.Qp ∧ c.Qp ≤ 40 := by
 unfold condOk at h
 rw [Bool.and_eq_true, decide_eq_true_eq] at h
 exact h.1
theorem spec_LevelsBack_ev (p : List Int) (c : Cond) (hc : condOk c = true) (hp : lv64 p = true) : ∃ o, spec_LevelsBack p c = some (o, true) ∧ o.length = 64 ∧ inB 10000000 o := by
 have hm : maxLen = 9223372036854775807 := rfl
 have hq := condOk_qp hc
 obtain ⟨hl, hb⟩ := lv64_in hp
 unfold spec_LevelsBack
 rw [spec_CondOk_eq, bnd_s, hc, sel_t, l09All_yes p 64 5000 (by omega) (by omega) (by omega) hb, bnd_s, Bool.not_true, bnd_s, sel_f]
 cases hE : c.Exact with
 | true =>
  obtain ⟨o, e, h1, h2⟩ := spec_Unscanned_ev 8 (Or.inr rfl) p 5000 (by omega) (by omega) hb
  rw [sel_t, e, bnd_s]
  exact ⟨o, rfl, by omega, inB_mono h2 (by omega)⟩
 | false =>
  rw [sel_f]
  cases hL : c.Large with
  | true =>
   obtain ⟨w, ew, w1, w2⟩ := spec_Unscanned_ev 8 (Or.inr rfl) p 5000 (by omega) (by omega) hb
   obtain ⟨l, el, l1, l2⟩ := map_loop (f := spec_LevelsBack_l4 c) 64 (fun x => -5000 ≤ x ∧ x ≤ 5000) (fun x => -5760000 ≤ x ∧ x ≤ 5760000) (by
    intro i l hi hll hx
    obtain ⟨d, ed, d1, d2⟩ := spec_LargeBack_ev (l.getD i 0) c.Qp hx hq
    unfold spec_LevelsBack_l4
    simp only [Int.toNat_natCast]
    rw [sel_yes (by omega), req_p (by omega), req_p (by omega), ed, bnd_s, req_p (by omega), req_p (by omega), wk (e := (i : Int) + 1) (by omega) (by omega)]
    exact ⟨d, rfl, d1, d2⟩) (by intro s; unfold spec_LevelsBack_l4; rw [sel_no (by simp)]) w (by omega) w2
   obtain ⟨o, e, h1, h2⟩ := spec_EightBack_ev l l1 l2
   rw [sel_t, ew, bnd_s, el, bnd_s, e, bnd_s]
   exact ⟨o, rfl, h1, h2⟩
  | false =>
   obtain ⟨o, eo, o1, o2⟩ := st_loop (f := spec_LevelsBack_l36 p c) 4 (fun k s => s.length = 64 ∧ inB 10000000 s) (by
    intro k s hk ⟨g1, g2⟩
    have hcut : ((p.drop (16 * k)).take 16).length = 16 := by rw [List.length_take, List.length_drop]; omega
    obtain ⟨a, ea, a1, a2⟩ := spec_Unscanned_ev 4 (Or.inl rfl) ((p.drop (16 * k)).take 16) 5000 (by omega) (by omega) (inB_take (inB_drop hb _) _)
    obtain ⟨l, el, l1, l2⟩ := map_loop (f := spec_LevelsBack_l41 c) 16 (fun x => -5000 ≤ x ∧ x ≤ 5000) (fun x => -10000000 ≤ x ∧ x ≤ 10000000) (by
     intro i l hi hll hx
     obtain ⟨d, ed, d1, d2⟩ := spec_SmallBack_ev (l.getD i 0) c.Qp i hx hq (by omega)
     unfold spec_LevelsBack_l41
     simp only [Int.toNat_natCast]
     rw [sel_yes (by omega), req_p (by omega), req_p (by omega), ed, bnd_s, req_p (by omega), req_p (by omega), wk (e := (i : Int) + 1) (by omega) (by omega)]
     exact ⟨d, rfl, d1, d2⟩) (by intro s; unfold spec_LevelsBack_l41; rw [sel_no (by simp)]) a (by omega) a2
    obtain ⟨b, eb, b1, b2⟩ := spec_FourBack_ev l l1 l2
    obtain ⟨r, er, r1, r2⟩ := st_loop (f := spec_LevelsBack_l42 ((k : Int), s) b) 16 (fun i s => s.length = 64 ∧ inB 10000000 s) (by
     intro i s hi ⟨g1, g2⟩
     have ha := inB_at b2 (i := i) (by omega)
     unfold spec_LevelsBack_l42
     simp only
     rw [sel_yes (by omega), req_p (by omega), req_p (by omega), req_p (by omega), req_p (by omega), req_p (by omega), req_p (by omega), tdiv_pos (a := (k : Int)) (by omega), tdiv_pos (a := (i : Int)) (by omega), tmod_pos (a := (k : Int)) (by omega), tmod_pos (a := (i : Int)) (by omega), wk (e := (k : Int) / 2) (by omega) (by omega), wk (e := (k : Int) / 2 * 4) (by omega) (by omega), wk (e := (i : Int) / 4) (by omega) (by omega), wk (e := (k : Int) / 2 * 4 + (i : Int) / 4) (by omega) (by omega), wk (e := 8 * ((k : Int) / 2 * 4 + (i : Int) / 4)) (by omega) (by omega), wk (e := (k : Int) % 2 * 4) (by omega) (by omega), wk (e := 8 * ((k : Int) / 2 * 4 + (i : Int) / 4) + (k : Int) % 2 * 4) (by omega) (by omega), wk (e := 8 * ((k : Int) / 2 * 4 + (i : Int) / 4) + (k : Int) % 2 * 4 + (i : Int) % 4) (by omega) (by omega), req_p (by omega), req_p (by omega), wk (e := (i : Int) + 1) (by omega) (by omega), Int.toNat_natCast]
     exact ⟨_, rfl, by rw [List.length_set]; exact g1, inB_set g2 _ ha⟩) (by intro s; unfold spec_LevelsBack_l42; rw [sel_no (by simp)]) s ⟨g1, g2⟩
    unfold spec_LevelsBack_l36
    simp only
    rw [sel_yes (by omega), wk (e := 16 * (k : Int)) (by omega) (by omega), wk (e := 16 * (k : Int) + 16) (by omega) (by omega), req_p (by omega), show (16 * (k : Int)).toNat = 16 * k by omega, show (16 * (k : Int) + 16).toNat - 16 * k = 16 by omega, ea, bnd_s, el, bnd_s, eb, bnd_s, er, bnd_s, wk (e := (k : Int) + 1) (by omega) (by omega)]
    exact ⟨_, rfl, r1, r2⟩) (by intro s; unfold spec_LevelsBack_l36; rw [sel_no (by simp)]) (List.replicate (64 : Int).toNat 0) ⟨by simp, inB_rep _ (by omega)⟩
   rw [sel_f, req_p (by omega), eo, bnd_s]
   exact ⟨o, rfl, o1, o2⟩
theorem spec_l13Dots_yes (l : List Int) (h : dots64 l = true) : spec_l13Dots l = some true := by
 obtain ⟨h1, h2⟩ := dots64_at h
 unfold spec_l13Dots
 rw [sel_neg (by simp only [bne_eq_false_iff_eq]; omega), self_loop l.length (f := spec_l13Dots_l2 l) (by
  intro i hi
  have := h2 i (by omega)
  unfold spec_l13Dots_l2
  rw [sel_yes (by omega), req_p (by omega), spec_l01In_eq, bnd_s, Int.toNat_natCast, decide_eq_true this, Bool.not_true, sel_f, wk (by omega) (by omega)]
  rfl) (by unfold spec_l13Dots_l2; rw [sel_no (by omega)]), bnd_s]
theorem dots64_of {l : List Int} (h1 : l.length = 64) (h2 : ∀ x ∈ l, 0 ≤ x ∧ x ≤ 255) : dots64 l = true := by
 unfold dots64
 rw [Bool.and_eq_true, decide_eq_true_eq, List.all_eq_true]
 exact ⟨h1, fun x hx => by unfold dotIn; rw [decide_eq_true_eq]; exact h2 x hx⟩
theorem spec_Joined_ev (g b : List Int) (hg : dots64 g = true) (hl : b.length = 64) (hb : inB 10000000 b) : ∃ o, spec_Joined g b = some o ∧ dots64 o = true := by
 have hm : maxLen = 9223372036854775807 := rfl
 obtain ⟨g1, g2⟩ := dots64_at hg
 unfold spec_Joined
 rw [spec_l13Dots_yes g hg, bnd_s, sel_t, l09All_yes b 64 10000000 (by omega) (by omega) (by omega) hb, bnd_s, Bool.not_true, bnd_s, sel_f]
 obtain ⟨o, e, h1, h2⟩ := st_loop (f := spec_Joined_l2 g b) 64 (fun i s => s.length = i ∧ ∀ x ∈ s, 0 ≤ x ∧ x ≤ 255) (by
  intro i s hi ⟨k1, k2⟩
  have ha := inB_at hb (i := i) (by omega)
  have hd := g2 i hi
  have br := brought_in (n := g.getD i 0 + b.getD i 0) (a := 0) (b := 255) (by omega)
  unfold spec_Joined_l2
  simp only [Int.toNat_natCast]
  rw [sel_yes (by omega), req_p (by omega), req_p (by omega), wk (e := g.getD i 0 + b.getD i 0) (by omega) (by omega), spec_Brought_eq, bnd_s, req_p (by simp only [List.length_singleton]; omega), wk (e := (i : Int) + 1) (by omega) (by omega)]
  refine ⟨_, rfl, by simp; omega, fun x hx => ?_⟩
  rcases List.mem_append.1 hx with hx | hx
  ·
   exact k2 x hx
  ·
   rw [List.mem_singleton.1 hx]; exact br) (by intro s; unfold spec_Joined_l2; rw [sel_no (by simp)]) [] ⟨rfl, fun x hx => by simp at hx⟩
 exact ⟨o, (bnd_e e).trans rfl, dots64_of h1 h2⟩
def edgesP (e : Edges) : Prop := (e.Above.length = 0 ∨ e.Above.length = 8) ∧ (e.Left.length = 0 ∨ e.Left.length = 8) ∧ (∀ x ∈ e.Above, 0 ≤ x ∧ x ≤ 255) ∧ (∀ x ∈ e.Left, 0 ≤ x ∧ x ≤ 255) ∧ -1 ≤ e.Corner ∧ e.Corner ≤ 255
theorem spec_l12Within_8 {p : Pic} (ok : picOk p = true) (x y : Int) : spec_l12Within p x y 8 8 = some (heldAt p x y) := by
 obtain ⟨k1, k2, k3⟩ := picOk_parts ok
 unfold spec_l12Within heldAt
 rw [spec_PicOk_eq, bnd_s, ok, sel_t, spec_l01In_eq, bnd_s, spec_l01In_eq, bnd_s, wk (e := p.Wide - 8) (by omega) (by omega), wk (e := p.High - 8) (by omega) (by omega), spec_l01In_eq, bnd_s, spec_l01In_eq, bnd_s]
 simp only [sel_and, bnd_s]
 congr 1
 rw [Bool.eq_iff_iff]
 simp only [Bool.and_eq_true, decide_eq_true_eq]
 omega
theorem spec_l13Fits_yes {p : Pic} (ok : picOk p = true) {x y : Int} (hx : x.tmod 8 = 0) (hy : y.tmod 8 = 0) (h : heldAt p x y = true) : spec_l13Fits p x y = some true := by
 unfold spec_l13Fits
 rw [req_p (by omega), hx, req_p (by omega), hy, spec_l12Within_8 ok, bnd_s, h]
 rfl
theorem spec_EdgesOf_ev {p : Pic} (ok : picOk p = true) {x y : Int} (hx : x.tmod 8 = 0) (hy : y.tmod 8 = 0) (h : heldAt p x y = true) : ∃ e, spec_EdgesOf p x y = some (e, true) ∧ edgesP e := by
 have hm : maxLen = 9223372036854775807 := rfl
 obtain ⟨k1, k2, k3⟩ := picOk_parts ok
 have h' := h
 unfold heldAt at h'
 rw [decide_eq_true_eq] at h'
 unfold spec_EdgesOf
 rw [spec_l13Fits_yes ok hx hy h, bnd_s, Bool.not_true, sel_f]
 obtain ⟨o, e, o1, o2, o3, o4, o5, o6⟩ := st_loop (f := spec_EdgesOf_l2 p x y) 8 (fun i s => (y > 0 → s.1.length = i) ∧ (¬ y > 0 → s.1.length = 0) ∧ (x > 0 → s.2.length = i) ∧ (¬ x > 0 → s.2.length = 0) ∧ (∀ z ∈ s.1, 0 ≤ z ∧ z ≤ 255) ∧ (∀ z ∈ s.2, 0 ≤ z ∧ z ≤ 255)) (by
  intro i s hi ⟨g1, g2, g3, g4, g5, g6⟩
  obtain ⟨a, b⟩ := s
  simp only at g1 g2 g3 g4 g5 g6
  have d1 := dotAt_range p (x + i) (y - 1)
  have d2 := dotAt_range p (x - 1) (y + i)
  have st1 : ∃ a', (sel (decide (y > 0)) (bnd (spec_DotAt p (wrapK .i64 (x + (i : Int))) (wrapK .i64 (y - 1))) fun q16 => req ((a.length + ([q16]).length) * 8 ≤ 140737488355328 ∧ a.length + ([q16]).length ≤ maxLen) <| some (a ++ ([q16]))) (some a)) = some a' ∧ (y > 0 → a'.length = i + 1) ∧ (¬ y > 0 → a'.length = 0) ∧ (∀ z ∈ a', 0 ≤ z ∧ z ≤ 255) := by
   by_cases c : y > 0
   ·
    rw [sel_yes c, wk (e := x + (i : Int)) (by omega) (by omega), wk (e := y - 1) (by omega) (by omega), spec_DotAt_eq ok, bnd_s, req_p (by simp only [List.length_singleton]; have := g1 c; omega)]
    refine ⟨_, rfl, fun _ => by simp; exact g1 c, fun hn => absurd c hn, fun z hz => ?_⟩
    rcases List.mem_append.1 hz with hz | hz
    ·
     exact g5 z hz
    ·
     rw [List.mem_singleton.1 hz]; exact d1
   ·
    rw [sel_no c]
    exact ⟨_, rfl, fun hn => absurd hn c, fun _ => g2 c, g5⟩
  obtain ⟨a', ea, a1, a2, a3⟩ := st1
  have st2 : ∃ b', (sel (decide (x > 0)) (bnd (spec_DotAt p (wrapK .i64 (x - 1)) (wrapK .i64 (y + (i : Int)))) fun q17 => req ((b.length + ([q17]).length) * 8 ≤ 140737488355328 ∧ b.length + ([q17]).length ≤ maxLen) <| some (a', (b ++ ([q17])))) (some (a', b))) = some (a', b') ∧ (x > 0 → b'.length = i + 1) ∧ (¬ x > 0 → b'.length = 0) ∧ (∀ z ∈ b', 0 ≤ z ∧ z ≤ 255) := by
   by_cases c : x > 0
   ·
    rw [sel_yes c, wk (e := y + (i : Int)) (by omega) (by omega), wk (e := x - 1) (by omega) (by omega), spec_DotAt_eq ok, bnd_s, req_p (by simp only [List.length_singleton]; have := g3 c; omega)]
    refine ⟨_, rfl, fun _ => by simp; exact g3 c, fun hn => absurd c hn, fun z hz => ?_⟩
    rcases List.mem_append.1 hz with hz | hz
    ·
     exact g6 z hz
    ·
     rw [List.mem_singleton.1 hz]; exact d2
   ·
    rw [sel_no c]
    exact ⟨_, rfl, fun hn => absurd hn c, fun _ => g4 c, g6⟩
  obtain ⟨b', eb, b1, b2, b3⟩ := st2
  unfold spec_EdgesOf_l2
  simp only
  rw [sel_yes (by omega), ea, bnd_s, eb, bnd_s, wk (e := (i : Int) + 1) (by omega) (by omega)]
  exact ⟨(a', b'), rfl, a1, a2, b1, b2, a3, b3⟩) (by intro s; unfold spec_EdgesOf_l2; rw [sel_no (by simp)]) ([], []) ⟨fun _ => rfl, fun _ => rfl, fun _ => rfl, fun _ => rfl, fun z hz => by simp at hz, fun z hz => by simp at hz⟩
 rw [e, bnd_s, sel_and, bnd_s]
 have d3 := dotAt_range p (x - 1) (y - 1)
 have ha : o.1.length = 0 ∨ o.1.length = 8 := by
  by_cases c : y > 0
  ·
   exact Or.inr (o1 c)
  ·
   exact Or.inl (o2 c)
 have hb : o.2.length = 0 ∨ o.2.length = 8 := by
  by_cases c : x > 0
  ·
   exact Or.inr (o3 c)
  ·
   exact Or.inl (o4 c)
 cases hc : (decide (x > 0) && decide (y > 0)) with
 | true =>
  rw [sel_t, wk (e := x - 1) (by omega) (by omega), wk (e := y - 1) (by omega) (by omega), spec_DotAt_eq ok, bnd_s, bnd_s]
  exact ⟨_, rfl, ha, hb, o5, o6, by simp only; omega, by simp only; omega⟩
 | false =>
  rw [sel_f, bnd_s]
  exact ⟨_, rfl, ha, hb, o5, o6, by simp only; omega, by simp only; omega⟩
theorem spec_l13Side_yes (l : List Int) (hl : l.length = 0 ∨ l.length = 8) (h : ∀ x ∈ l, 0 ≤ x ∧ x ≤ 255) : spec_l13Side l = some true := by
 unfold spec_l13Side
 have hc : (sel ((l.length : Int) != 0) (some ((l.length : Int) != 8)) (some false)) = some false := by
  rcases hl with e | e
  ·
   rw [e]; rfl
  ·
   rw [e]; rfl
 rw [hc, bnd_s, sel_f, self_loop l.length (f := spec_l13Side_l2 l) (by
  intro i hi
  have := h (l.getD i 0) (by rw [getD_at l i hi]; exact List.getElem_mem _)
  unfold spec_l13Side_l2
  rw [sel_yes (by omega), req_p (by omega), spec_l01In_eq, bnd_s, Int.toNat_natCast, decide_eq_true this, Bool.not_true, sel_f, wk (by omega) (by omega)]
  rfl) (by unfold spec_l13Side_l2; rw [sel_no (by omega)]), bnd_s]
theorem spec_EdgesOk_yes {e : Edges} (h : edgesP e) : spec_EdgesOk e = some true := by
 obtain ⟨h1, h2, h3, h4, h5, h6⟩ := h
 unfold spec_EdgesOk
 rw [spec_l13Side_yes _ h1 h3, bnd_s, sel_t, spec_l13Side_yes _ h2 h4, bnd_s, sel_t, spec_l01In_eq, bnd_s, decide_eq_true ⟨h5, h6⟩, bnd_s]
theorem spec_l13Filled_ev (l : List Int) (k : Nat) (hk : k < 8) (hl : l.length = 0 ∨ l.length = 8) (h : ∀ x ∈ l, 0 ≤ x ∧ x ≤ 255) : ∃ x, spec_l13Filled l k = some x ∧ 0 ≤ x ∧ x ≤ 255 := by
 unfold spec_l13Filled
 rcases hl with e | e
 ·
  rw [sel_pos (by rw [e]; rfl)]; exact ⟨_, rfl, by omega, by omega⟩
 ·
  rw [sel_neg (by rw [e]; rfl), req_p (by omega), Int.toNat_natCast]
  exact ⟨_, rfl, h _ (by rw [getD_at l k (by omega)]; exact List.getElem_mem _)⟩
theorem spec_l13Mid_ev {e : Edges} (h : edgesP e) : ∃ x, spec_l13Mid e = some x ∧ 0 ≤ x ∧ x ≤ 255 := by
 obtain ⟨h1, h2, h3, h4, _, _⟩ := h
 unfold spec_l13Mid
 rw [wk (e := (e.Above.length : Int) + (e.Left.length : Int)) (by omega) (by omega)]
 by_cases hz : (e.Above.length : Int) + (e.Left.length : Int) = 0
 ·
  rw [sel_pos (by simpa using hz)]; exact ⟨_, rfl, by omega, by omega⟩
 ·
  rw [sel_neg (by simpa using hz), req_p (by omega), tdiv_pos (by omega), wk (e := ((e.Above.length : Int) + (e.Left.length : Int)) / 2) (by omega) (by omega)]
  obtain ⟨a, ea, a1, a2⟩ := acc_loop (f := spec_l13Mid_l2 e) e.Above.length (fun i s => 0 ≤ s ∧ s ≤ ((e.Above.length : Int) + (e.Left.length : Int)) / 2 + 255 * i) (by
   intro i s hi ⟨g1, g2⟩
   have := h3 (e.Above.getD i 0) (by rw [getD_at _ i hi]; exact List.getElem_mem _)
   unfold spec_l13Mid_l2
   simp only [Int.toNat_natCast]
   rw [sel_yes (by omega), req_p (by omega), wk (e := s + e.Above.getD i 0) (by omega) (by omega), wk (e := (i : Int) + 1) (by omega) (by omega)]
   exact ⟨_, rfl, by omega, by omega⟩) (by intro s; unfold spec_l13Mid_l2; rw [sel_no (by simp)]) (((e.Above.length : Int) + (e.Left.length : Int)) / 2) ⟨by omega, by omega⟩
  obtain ⟨b, eb, b1, b2⟩ := acc_loop (f := spec_l13Mid_l4 e) e.Left.length (fun i s => 0 ≤ s ∧ s ≤ ((e.Above.length : Int) + (e.Left.length : Int)) / 2 + 255 * e.Above.length + 255 * i) (by
   intro i s hi ⟨g1, g2⟩
   have := h4 (e.Left.getD i 0) (by rw [getD_at _ i hi]; exact List.getElem_mem _)
   unfold spec_l13Mid_l4
   simp only [Int.toNat_natCast]
   rw [sel_yes (by omega), req_p (by omega), wk (e := s + e.Left.getD i 0) (by omega) (by omega), wk (e := (i : Int) + 1) (by omega) (by omega)]
   exact ⟨_, rfl, by omega, by omega⟩) (by intro s; unfold spec_l13Mid_l4; rw [sel_no (by simp)]) a ⟨by omega, by omega⟩
  rw [ea, bnd_s, eb, bnd_s, req_p hz, tdiv_pos b1]
  have hn : (e.Above.length : Int) + (e.Left.length : Int) = 8 ∨ (e.Above.length : Int) + (e.Left.length : Int) = 16 := by omega
  have hr : 0 ≤ b / ((e.Above.length : Int) + (e.Left.length : Int)) ∧ b / ((e.Above.length : Int) + (e.Left.length : Int)) ≤ 255 := by
   rcases hn with hn | hn <;> rw [hn] <;> omega
  rw [wk (by omega) (by omega)]
  exact ⟨_, rfl, hr⟩
theorem spec_GuessOf_ev (m : Int) (hm0 : 0 ≤ m ∧ m ≤ 3) {e : Edges} (h : edgesP e) : ∃ g, spec_GuessOf m e = some g ∧ dots64 g = true := by
 have hm : maxLen = 9223372036854775807 := rfl
 have h' := h
 obtain ⟨h1, h2, h3, h4, h5, h6⟩ := h'
 obtain ⟨mid, em, m1, m2⟩ := spec_l13Mid_ev h
 unfold spec_GuessOf
 rw [spec_EdgesOk_yes h, bnd_s, sel_t, spec_l01In_eq, bnd_s, decide_eq_true hm0, Bool.not_true, bnd_s, sel_f]
 have hc : ∃ v, sel (decide (e.Corner < 0)) (some (128 : Int)) (some e.Corner) = some v ∧ 0 ≤ v ∧ v ≤ 255 := by
  by_cases c : e.Corner < 0
  ·
   rw [sel_yes c]; exact ⟨_, rfl, by omega, by omega⟩
  ·
   rw [sel_no c]; exact ⟨_, rfl, by omega, by omega⟩
 obtain ⟨v, ev, v1, v2⟩ := hc
 rw [ev, bnd_s]
 obtain ⟨o, eo, o1, o2⟩ := st_loop (f := spec_GuessOf_l2 m e v) 64 (fun i s => s.length = i ∧ ∀ x ∈ s, 0 ≤ x ∧ x ≤ 255) (by
  intro i s hi ⟨g1, g2⟩
  obtain ⟨a, ea, a1, a2⟩ := spec_l13Filled_ev e.Above (i % 8) (by omega) h1 h3
  obtain ⟨b, eb, b1, b2⟩ := spec_l13Filled_ev e.Left (i / 8) (by omega) h2 h4
  have br := brought_in (n := b + a - v) (a := 0) (b := 255) (by omega)
  have put : ∀ z : Int, 0 ≤ z ∧ z ≤ 255 → (s ++ [z]).length = i + 1 ∧ ∀ x ∈ s ++ [z], 0 ≤ x ∧ x ≤ 255 := by
   intro z hz
   refine ⟨by simp; omega, fun x hx => ?_⟩
   rcases List.mem_append.1 hx with hx | hx
   ·
    exact g2 x hx
   ·
    rw [List.mem_singleton.1 hx]; exact hz
  unfold spec_GuessOf_l2
  simp only
  rw [sel_yes (by omega), req_p (by omega), tmod_pos (by omega), show (i : Int) % 8 = ((i % 8 : Nat) : Int) by omega, ea, bnd_s, req_p (by omega), tdiv_pos (by omega), wk (e := (i : Int) / 8) (by omega) (by omega), show (i : Int) / 8 = ((i / 8 : Nat) : Int) by omega, eb, bnd_s, wk (e := (i : Int) + 1) (by omega) (by omega), em]
  cases (m == 0) with
  | true =>
   rw [sel_t, bnd_s, req_p (by simp only [List.length_singleton]; omega), bnd_s]
   exact ⟨_, rfl, put _ ⟨m1, m2⟩⟩
  | false =>
   rw [sel_f]
   cases (m == 1) with
   | true =>
    rw [sel_t, req_p (by simp only [List.length_singleton]; omega), bnd_s]
    exact ⟨_, rfl, put _ ⟨a1, a2⟩⟩
   | false =>
    rw [sel_f]
    cases (m == 2) with
    | true =>
     rw [sel_t, req_p (by simp only [List.length_singleton]; omega), bnd_s]
     exact ⟨_, rfl, put _ ⟨b1, b2⟩⟩
    | false =>
     rw [sel_f, wk (e := b + a) (by omega) (by omega), wk (e := b + a - v) (by omega) (by omega), spec_Brought_eq, bnd_s, req_p (by simp only [List.length_singleton]; omega), bnd_s]
     exact ⟨_, rfl, put _ br⟩) (by intro s; unfold spec_GuessOf_l2; rw [sel_no (by simp)]) [] ⟨rfl, fun x hx => by simp at hx⟩
 exact ⟨o, (bnd_e eo).trans rfl, dots64_of o1 o2⟩
theorem spec_l16Put_ev {p : Pic} {x y : Int} {d : List Int} (ok : picOk p = true) (h0 : heldAt p x y = true) (hd : dots64 d = true) : ∃ p', spec_l16Put p x y d = some p' ∧ picOk p' = true ∧ p'.Wide = p.Wide ∧ p'.High = p.High := by
 have hm : maxLen = 9223372036854775807 := rfl
 obtain ⟨k1, k2, k3⟩ := picOk_parts ok
 have ar := area_small k1 k2
 unfold heldAt at h0
 rw [decide_eq_true_eq] at h0
 have hdl := (dots64_at hd).1
 have hn := numsOf_length p.Dots
 unfold spec_l16Put
 rw [req_p (by omega)]
 obtain ⟨o, e, o1⟩ := st_loop (f := spec_l16Put_l2 p x y d) 64 (fun _ s => s.length = p.Dots.size) (by
  intro i s hi g1
  have b1 : 0 ≤ (y + (i : Int) / 8) * p.Wide := Int.mul_nonneg (by omega) (by omega)
  have b2 : (y + (i : Int) / 8) * p.Wide ≤ (p.High - 1) * p.Wide := Int.mul_le_mul_of_nonneg_right (by omega) (by omega)
  have b3 : (p.High - 1) * p.Wide = p.Wide * p.High - p.Wide := by rw [Int.sub_mul, Int.one_mul, Int.mul_comm]
  unfold spec_l16Put_l2
  simp only
  rw [sel_yes (by omega), req_p (by omega), req_p (by omega), req_p (by omega), tdiv_pos (by omega), tmod_pos (by omega), wk (e := (i : Int) / 8) (by omega) (by omega), wk (e := y + (i : Int) / 8) (by omega) (by omega), wk (e := (y + (i : Int) / 8) * p.Wide) (by omega) (by omega), wk (e := (y + (i : Int) / 8) * p.Wide + x) (by omega) (by omega), wk (e := (y + (i : Int) / 8) * p.Wide + x + (i : Int) % 8) (by omega) (by omega), req_p (by omega), req_p (by omega), wk (e := (i : Int) + 1) (by omega) (by omega)]
  exact ⟨_, rfl, by rw [List.length_set]; exact g1⟩) (by intro s; unfold spec_l16Put_l2; rw [sel_no (by simp)]) (numsOf p.Dots) hn
 refine ⟨_, (bnd_e e).trans rfl, picOk_of k1 k2 ?_, rfl, rfl⟩
 simp only
 rw [strOfNums_size]; omega
def sideB (n : Int) : Bool := decide (n.tmod 8 = 0) && decide (8 ≤ n ∧ n ≤ 64)
theorem spec_l16Side_eq (n : Int) : spec_l16Side n = some (sideB n) := by
 unfold spec_l16Side sideB
 rw [req_p (by omega), spec_l01In_eq, bnd_s, sel_and, bnd_s, beq_dec]
theorem it_congr {V O : Type} {f g : V → Option (Lp V O)} (I : V → Prop) (h : ∀ v, I v → f v = g v) (hI : ∀ v v', I v → g v = some (.go v') → I v') : ∀ (k : Nat) (v : V), I v → it f k v = it g k v
 | 0, _, _ => rfl
 | k + 1, v, hv => by
  rw [it, it, h v hv]
  cases e : g v with
  | none => rfl
  | some s =>
   cases s with
   | go y => exact it_congr I h hI k y (hI v y hv e)
   | done o => rfl
theorem loop_congr {V O : Type} {f g : V → Option (Lp V O)} (I : V → Prop) (h : ∀ v, I v → f v = g v) (hI : ∀ v v', I v → g v = some (.go v') → I v') {v : V} (hv : I v) : loop f v = loop g v := by
 apply Option.ext
 intro o
 rw [loop_it, loop_it]
 exact ⟨fun ⟨k, hk⟩ => ⟨k, by rw [← it_congr I h hI k v hv]; exact hk⟩, fun ⟨k, hk⟩ => ⟨k, by rw [it_congr I h hI k v hv]; exact hk⟩⟩
theorem loop_of {V O : Type} {f : V → Option (Lp V O)} {v : V} {o : O} (k : Nat) (h : it f k v = some o) : loop f v = some o := loop_it.2 ⟨k, h⟩
theorem list_eq {a b : List Int} {n : Nat} (ha : a.length = n) (hb : b.length = n) (h : ∀ i : Nat, i < n → a.getD i 0 = b.getD i 0) : a = b := by
 apply List.ext_getElem (by omega)
 intro i h1 h2
 have := h i (by omega)
 rwa [getD_at a i h1, getD_at b i h2] at this
theorem getD_map {n : Nat} (g : Nat → Int) {i : Nat} (h : i < n) : ((List.range n).map g).getD i 0 = g i := by
 rw [getD_at _ i (by simpa using h)]; simp
theorem st_loop2 {S : Type} {f : Int × S → Option (Lp (Int × S) S)} (n : Nat) (I : Nat → S → Prop) (hs : ∀ (i : Nat) (l : S), i < n → I i l → ∃ l', f ((i : Int), l) = some (.go (((i + 1 : Nat) : Int), l')) ∧ I (i + 1) l') (he : ∀ l, I n l → f ((n : Int), l) = some (.done l)) (l0 : S) (h0 : I 0 l0) : ∃ o, loop f (0, l0) = some o ∧ I n o := by
 have key : ∀ i : Nat, i ≤ n → ∀ l, I i l → ∃ o, loop f ((i : Int), l) = some o ∧ I n o := by
  refine down_to _ ?_ ?_
  ·
   intro l h; exact ⟨l, ldone (he l h), h⟩
  ·
   intro i hi ih l h
   obtain ⟨l', e, h'⟩ := hs i l hi h
   obtain ⟨o, e2, h2⟩ := ih l' h'
   exact ⟨o, lgo e e2, h2⟩
 exact key 0 (by omega) l0 h0
theorem place_loop {f : Int × List Int → Option (Lp (Int × List Int) (List Int))} (n : Nat) (g : Nat → Int) (l : List Int) (hl : l.length = n) (hs : ∀ (i : Nat) (s : List Int), i < n → s.length = n → s.getD i 0 = l.getD i 0 → f ((i : Int), s) = some (.go (((i + 1 : Nat) : Int), s.set i (g i)))) (he : ∀ s : List Int, s.length = n → f ((n : Int), s) = some (.done s)) : loop f (0, l) = some ((List.range n).map g) := by
 obtain ⟨o, e, h1, h2, _⟩ := st_loop2 (f := f) n (fun i s => s.length = n ∧ (∀ j, j < i → s.getD j 0 = g j) ∧ ∀ j, i ≤ j → s.getD j 0 = l.getD j 0) (by
  intro i s hi ⟨g1, g2, g3⟩
  refine ⟨_, hs i s hi g1 (g3 i (Nat.le_refl _)), by rw [List.length_set]; exact g1, fun j hj => ?_, fun j hj => ?_⟩
  ·
   rw [getD_set_at s i j _ (by omega)]
   by_cases h : i = j
   ·
    rw [if_pos h, h]
   ·
    rw [if_neg h]; exact g2 j (by omega)
  ·
   rw [getD_set_at s i j _ (by omega), if_neg (by omega)]; exact g3 j (by omega)) (fun s hs => he s hs.1) l ⟨hl, fun j hj => by omega, fun _ _ => rfl⟩
 rw [e]
 congr 1
 exact list_eq h1 (by simp) fun i hi => by rw [h2 i hi, getD_map g hi]
theorem floor_alike : impl_floor = spec_l09Down := rfl
theorem spec_StepOf_eq (qp : Int) (h0 : 0 ≤ qp ∧ qp ≤ 40) : spec_StepOf qp = some (stepPlace qp) := by
 have h := step_ok ⟨qp.toNat, by omega⟩
 simp only at h
 rw [show ((qp.toNat : Nat) : Int) = qp by omega] at h
 unfold spec_StepOf
 rw [spec_l01In_eq, bnd_s, decide_eq_true (by omega), Bool.not_true, sel_f, req_p (by omega)]
 have hb : (sel ((qp.tmod 6) == 0) (some (10 : Int)) (sel ((qp.tmod 6) == 1) (some 11) (sel ((qp.tmod 6) == 2) (some 13) (sel ((qp.tmod 6) == 3) (some 14) (sel ((qp.tmod 6) == 4) (some 16) (some 18)))))) = some (stepBase qp) := by
  unfold stepBase
  simp only [sel_ite, beq_iff_eq]
  repeat' split
  all_goals rfl
 rw [hb, bnd_s]
 unfold stepPlace at h ⊢
 cases e : it (spec_StepOf_l2 qp) 10 (stepBase qp, 0) with
 | none => rw [e] at h; simp only at h; omega
 | some q => rw [loop_it.2 ⟨10, e⟩, bnd_s]
theorem impl_step_all : ∀ q : Fin 41, impl_StepOf (q.val : Int) = some (stepPlace (q.val : Int)) := by decide +kernel
theorem impl_StepOf_eq (qp : Int) (h0 : 0 ≤ qp ∧ qp ≤ 40) : impl_StepOf qp = some (stepPlace qp) := by
 have := impl_step_all ⟨qp.toNat, by omega⟩
 simp only at this
 rwa [show ((qp.toNat : Nat) : Int) = qp by omega] at this
theorem StepOf_alike (qp : Int) (h0 : 0 ≤ qp ∧ qp ≤ 40) : impl_StepOf qp = spec_StepOf qp := by rw [impl_StepOf_eq qp h0, spec_StepOf_eq qp h0]
theorem spec_SignOf_eq (u v : Nat) (hu : u < 8) (hv : v < 8) : spec_SignOf u v = some (signPlace u v) := by
 have h := sign_ok ⟨u, hu⟩ ⟨v, hv⟩
 simp only at h
 unfold spec_SignOf
 rw [spec_l01In_eq, bnd_s, decide_eq_true (by omega), sel_t, spec_l01In_eq, bnd_s, decide_eq_true (by omega), Bool.not_true, bnd_s, sel_f]
 unfold signPlace at h ⊢
 cases e : it spec_SignOf_l2 10 (1, (IntKind.wrap .i64 (BitVec.ofInt (IntKind.bits .i64) (u : Int) &&& BitVec.ofInt (IntKind.bits .i64) (v : Int)).toNat)) with
 | none => rw [e] at h; simp only at h; omega
 | some q => rw [loop_it.2 ⟨10, e⟩, bnd_s]
theorem impl_sign_all : ∀ u v : Fin 8, impl_SignOf (u.val : Int) (v.val : Int) = some (signPlace (u.val : Int) (v.val : Int)) := by decide +kernel
theorem SignOf_alike (u v : Nat) (hu : u < 8) (hv : v < 8) : impl_SignOf u v = some (signPlace u v) := impl_sign_all ⟨u, hu⟩ ⟨v, hv⟩
def scaleIt (qp p : Int) : Option Int :=
 bnd (spec_KindOf p) fun q1 => bnd (spec_l08Pick q1 10 16 13) fun a1 => bnd (spec_l08Pick q1 11 18 14) fun a2 => bnd (spec_l08Pick q1 13 20 16) fun a3 => bnd (spec_l08Pick q1 14 23 18) fun a4 => bnd (spec_l08Pick q1 16 25 20) fun a5 => bnd (spec_l08Pick q1 18 29 23) fun a6 =>
 it (spec_ScaleOf_l2 qp) 10 ((sel (qp.tmod 6 == 0) a1 (sel (qp.tmod 6 == 1) a2 (sel (qp.tmod 6 == 2) a3 (sel (qp.tmod 6 == 3) a4 (sel (qp.tmod 6 == 4) a5 (sel (qp.tmod 6 == 5) a6 0)))))), 0)
theorem scale_all : ∀ q : Fin 41, ∀ p : Fin 16, (scaleIt (q.val : Int) (p.val : Int)).isSome = true ∧ impl_ScaleOf (q.val : Int) (p.val : Int) = scaleIt (q.val : Int) (p.val : Int) := by decide +kernel
theorem ScaleOf_alike (qp p : Int) (h0 : 0 ≤ qp ∧ qp ≤ 40) (hp : 0 ≤ p ∧ p ≤ 15) : impl_ScaleOf qp p = spec_ScaleOf qp p := by
 have := scale_all ⟨qp.toNat, by omega⟩ ⟨p.toNat, by omega⟩
 simp only at this
 rw [show ((qp.toNat : Nat) : Int) = qp by omega, show ((p.toNat : Nat) : Int) = p by omega] at this
 obtain ⟨h1, h2⟩ := this
 rw [h2]
 cases e : scaleIt qp p with
 | none => rw [e] at h1; cases h1
 | some o =>
  unfold scaleIt at e
  unfold spec_ScaleOf
  obtain ⟨k, ek, k0, k1⟩ := spec_KindOf_ev p hp
  rw [ek, bnd_s] at e ⊢
  rw [spec_l01In_eq, bnd_s, decide_eq_true h0, sel_t, decide_eq_false (by omega), bnd_s, sel_f, req_p (by omega)]
  obtain ⟨a1, e1, b1⟩ := spec_l08Pick_ev k 10 16 13
  obtain ⟨a2, e2, b2⟩ := spec_l08Pick_ev k 11 18 14
  obtain ⟨a3, e3, b3⟩ := spec_l08Pick_ev k 13 20 16
  obtain ⟨a4, e4, b4⟩ := spec_l08Pick_ev k 14 23 18
  obtain ⟨a5, e5, b5⟩ := spec_l08Pick_ev k 16 25 20
  obtain ⟨a6, e6, b6⟩ := spec_l08Pick_ev k 18 29 23
  rw [e1, e2, e3, e4, e5, e6] at e ⊢
  simp only [bnd_s, sel_ss] at e ⊢
  rw [loop_of 10 e, bnd_s]
def scanOrdIn (n : Int) (v16 : Int × List Int) : Option (Lp (Int × List Int) (List Int)) :=
 sel (decide (v16.1 ≤ (wrapK .i64 ((wrapK .i64 (2 * n)) - 2)))) (
 bnd (it (impl_scanOrder_l14 n v16) 20 (0, v16.2)) fun v42 =>
 some (.go (wrapK .i64 (v16.1 + 1), v42))) (
 some (.done v16.2))
theorem scanOrdIn_is {n : Int} {v : Int × List Int} {x : Lp (Int × List Int) (List Int)} (h : scanOrdIn n v = some x) : impl_scanOrder_l12 n v = some x := by
 unfold scanOrdIn at h
 unfold impl_scanOrder_l12
 rcases sel_some h with ⟨hb, h⟩ | ⟨hb, h⟩
 ·
  rw [hb, sel_t]
  obtain ⟨a, h1, h2⟩ := bnd_some h
  rw [loop_it.2 ⟨20, h1⟩, bnd_s]
  exact h2
 ·
  rw [hb, sel_f]; exact h
def scanL (n : Int) : List Int := (it (scanOrdIn n) 20 (0, [])).getD []
theorem scanL_4 : (it (scanOrdIn 4) 20 (0, [])).isSome = true ∧ (scanL 4).length = 16 := by decide +kernel
theorem scanL_8 : (it (scanOrdIn 8) 20 (0, [])).isSome = true ∧ (scanL 8).length = 64 := by decide +kernel
theorem scanL_at4 : ∀ i : Fin 16, (scanL 4).getD i.val 0 = scanPlace 4 (i.val : Int) := by decide +kernel
theorem scanL_at8 : ∀ i : Fin 64, (scanL 8).getD i.val 0 = scanPlace 8 (i.val : Int) := by decide +kernel
theorem impl_scanOrder_eq (n : Int) (hn : n = 4 ∨ n = 8) : impl_scanOrder n = some (scanL n) ∧ ((scanL n).length : Int) = n * n ∧ ∀ i : Nat, (i : Int) < n * n → (scanL n).getD i 0 = scanPlace n i := by
 have h : (it (scanOrdIn n) 20 (0, [])).isSome = true ∧ ((scanL n).length : Int) = n * n := by
  rcases hn with rfl | rfl
  ·
   have := scanL_4; exact ⟨this.1, by omega⟩
  ·
   have := scanL_8; exact ⟨this.1, by omega⟩
 refine ⟨?_, h.2, fun i hi => ?_⟩
 ·
  obtain ⟨o, ho⟩ := Option.isSome_iff_exists.1 h.1
  have hl := loop_of 20 (it_of (fun v y => scanOrdIn_is (n := n)) 20 _ ho)
  unfold impl_scanOrder
  rw [hl, bnd_s]
  unfold scanL; rw [ho]; rfl
 ·
  rcases hn with rfl | rfl
  ·
   exact scanL_at4 ⟨i, by omega⟩
  ·
   exact scanL_at8 ⟨i, by omega⟩
theorem Unscanned_alike (n : Int) (hn : n = 4 ∨ n = 8) (l : List Int) (hl : (l.length : Int) = n * n) : impl_Unscanned n l = spec_Unscanned n l := by
 obtain ⟨e, h1, h2⟩ := impl_scanOrder_eq n hn
 have hw : wrapK .i64 (n * n) = n * n := by rcases hn with rfl | rfl <;> exact wk (by omega) (by omega)
 have hn2 : n * n ≤ 64 := by rcases hn with rfl | rfl <;> omega
 unfold impl_Unscanned spec_Unscanned
 rw [e]
 have : loop (impl_Unscanned_l2 l (scanL n)) (0, List.replicate (l.length : Int).toNat 0) = loop (spec_Unscanned_l2 n l) (0, List.replicate (l.length : Int).toNat 0) := by
  refine loop_congr (fun v => (∃ i : Nat, v.1 = (i : Int) ∧ i ≤ l.length) ∧ v.2.length = l.length) ?_ ?_ ⟨⟨0, rfl, by omega⟩, by simp⟩
  ·
   intro ⟨i, s⟩ ⟨⟨k, ek, hk⟩, hs⟩
   simp only at hs ek
   subst ek
   unfold impl_Unscanned_l2 spec_Unscanned_l2
   simp only [Int.toNat_natCast]
   rw [hw]
   by_cases hi : (k : Int) < n * n
   ·
    have hp := scanPlace_in n hn k hi
    have h3 := h2 k hi
    simp only [h3]
    rw [sel_yes (by omega), sel_yes hi, spec_ScanAt_ev n hn k hi, bnd_s, req_p (by omega), req_p (by omega)]
   ·
    rw [sel_no (by omega), sel_no hi]
  ·
   intro ⟨i, s⟩ v' ⟨⟨k, ek, hk⟩, hs⟩ he
   simp only at hs ek
   subst ek
   unfold spec_Unscanned_l2 at he
   simp only [Int.toNat_natCast] at he
   rw [hw] at he
   by_cases hi : (k : Int) < n * n
   ·
    have hp := scanPlace_in n hn k hi
    rw [sel_yes hi, spec_ScanAt_ev n hn k hi, bnd_s, req_p (by omega), req_p (by omega), req_p (by omega), wk (by omega) (by omega)] at he
    cases he
    exact ⟨⟨k + 1, rfl, by omega⟩, by rw [List.length_set]; exact hs⟩
   ·
    rw [sel_no hi] at he; cases he
 simp only [bnd_s, this]
def acc8 (t : Nat → Int) : Nat → Int
 | 0 => 0
 | k + 1 => wrapK .i64 (acc8 t k + t k)
def rowT (p : List Int) (i v k : Nat) : Int := wrapK .i64 (signPlace v k * p.getD (8 * i + k) 0)
def colT (p : List Int) (u v k : Nat) : Int := wrapK .i64 (signPlace u k * p.getD (8 * k + v) 0)
def half8 (p : List Int) : List Int := (List.range 64).map fun j => acc8 (rowT p (j / 8) (j % 8)) 8
def sums8 (p : List Int) : List Int := (List.range 64).map fun j => acc8 (colT (half8 p) (j / 8) (j % 8)) 8
theorem half8_len (p : List Int) : (half8 p).length = 64 := by simp [half8]
theorem sums8_len (p : List Int) : (sums8 p).length = 64 := by simp [sums8]
theorem sum_loops {f1 : Int × List Int → Option (Lp (Int × List Int) (List Int))} {f2 : Int × List Int → Int × List Int → Option (Lp (Int × List Int) (List Int))} {f3 : Int × List Int → Int × List Int → Int × List Int → Option (Lp (Int × List Int) (List Int))} (t : Nat → Nat → Nat → Int)
  (h1 : ∀ v, f1 v = sel (decide (v.1 < 8)) (bnd (loop (f2 v) (0, v.2)) fun w => some (.go (wrapK .i64 (v.1 + 1), w))) (some (.done v.2)))
  (h2 : ∀ v w, f2 v w = sel (decide (w.1 < 8)) (bnd (loop (f3 v w) (0, w.2)) fun x => some (.go (wrapK .i64 (w.1 + 1), x))) (some (.done w.2)))
  (h3 : ∀ (i v k : Nat) (a b s : List Int), i < 8 → v < 8 → k < 8 → s.length = 64 → f3 ((i : Int), a) ((v : Int), b) ((k : Int), s) = some (.go (((k + 1 : Nat) : Int), s.set (8 * i + v) (wrapK .i64 (s.getD (8 * i + v) 0 + t i v k)))))
  (h4 : ∀ (i v : Nat) (a b s : List Int), f3 ((i : Int), a) ((v : Int), b) (8, s) = some (.done s)) : loop f1 (0, List.replicate 64 0) = some ((List.range 64).map fun j => acc8 (t (j / 8) (j % 8)) 8) := by
 obtain ⟨o, e, o1, o2, _⟩ := st_loop2 (f := f1) 8 (fun i s => s.length = 64 ∧ (∀ j, j < 8 * i → s.getD j 0 = acc8 (t (j / 8) (j % 8)) 8) ∧ ∀ j, 8 * i ≤ j → s.getD j 0 = 0) (by
  intro i s hi ⟨g1, g2, g3⟩
  obtain ⟨r, er, r1, r2, r3⟩ := st_loop2 (f := f2 ((i : Int), s)) 8 (fun v s => s.length = 64 ∧ (∀ j, j < 8 * i + v → s.getD j 0 = acc8 (t (j / 8) (j % 8)) 8) ∧ ∀ j, 8 * i + v ≤ j → s.getD j 0 = 0) (by
   intro v s' hv ⟨k1, k2, k3⟩
   obtain ⟨q, eq, q1, q2, q3⟩ := st_loop2 (f := f3 ((i : Int), s) ((v : Int), s')) 8 (fun k s => s.length = 64 ∧ (∀ j, j ≠ 8 * i + v → s.getD j 0 = s'.getD j 0) ∧ s.getD (8 * i + v) 0 = acc8 (t i v) k) (by
    intro k s'' hk ⟨m1, m2, m3⟩
    refine ⟨_, h3 i v k s s' s'' hi hv hk m1, by rw [List.length_set]; exact m1, fun j hj => ?_, ?_⟩
    ·
     rw [getD_set_at _ _ _ _ (by omega), if_neg (fun h => hj h.symm)]; exact m2 j hj
    ·
     rw [getD_set_at _ _ _ _ (by omega), if_pos rfl, m3]; rfl) (fun z _ => h4 i v s s' z) s' ⟨k1, fun _ _ => rfl, by rw [k3 _ (Nat.le_refl _)]; rfl⟩
   refine ⟨q, by rw [h2, sel_yes (by simp only; omega), eq, bnd_s, wk (by simp only; omega) (by simp only; omega)]; rfl, q1, fun j hj => ?_, fun j hj => ?_⟩
   ·
    by_cases h : j = 8 * i + v
    ·
     rw [h, q3, show (8 * i + v) / 8 = i by omega, show (8 * i + v) % 8 = v by omega]
    ·
     rw [q2 j h]; exact k2 j (by omega)
   ·
    rw [q2 j (by omega)]; exact k3 j (by omega)) (fun z _ => by rw [h2, sel_no (by simp)]) s ⟨g1, g2, g3⟩
  refine ⟨r, by rw [h1, sel_yes (by simp only; omega), er, bnd_s, wk (by simp only; omega) (by simp only; omega)]; rfl, r1, fun j hj => r2 j (by omega), fun j hj => r3 j (by omega)⟩) (fun z _ => by rw [h1, sel_no (by simp)]) (List.replicate 64 0) ⟨by simp, fun j hj => by omega, fun j _ => by
   by_cases h : j < 64
   ·
    rw [getD_at _ _ (by rw [List.length_replicate]; exact h)]; exact List.getElem_replicate ..
   ·
    rw [List.getD_eq_getElem?_getD, List.getElem?_eq_none (by rw [List.length_replicate]; omega)]; rfl⟩
 rw [e]
 congr 1
 exact list_eq o1 (by simp) fun j hj => by rw [o2 j (by omega), getD_map (fun j => acc8 (t (j / 8) (j % 8)) 8) hj]
theorem impl_sums_eq (p : List Int) (hp : p.length = 64) : impl_sums p = some (sums8 p) := by
 unfold impl_sums
 rw [req_p (by omega)]
 have e1 : loop (impl_sums_l72 p) (0, List.replicate (64 : Int).toNat 0) = some (half8 p) :=
  sum_loops (f2 := impl_sums_l84 p) (f3 := impl_sums_l86 p) (fun i v k => rowT p i v k) (fun _ => rfl) (fun _ _ => rfl) (fun i v k a b s hi hv hk hs => by
   unfold impl_sums_l86
   simp only
   rw [sel_yes (by omega), wk (e := 8 * (i : Int)) (by omega) (by omega), wk (e := 8 * (i : Int) + (v : Int)) (by omega) (by omega), wk (e := 8 * (i : Int) + (k : Int)) (by omega) (by omega), req_p (by omega), req_p (by omega), SignOf_alike v k hv hk, bnd_s, req_p (by omega), req_p (by omega), req_p (by omega), wk (e := (k : Int) + 1) (by omega) (by omega), show (8 * (i : Int) + (v : Int)).toNat = 8 * i + v by omega, show (8 * (i : Int) + (k : Int)).toNat = 8 * i + k by omega]
   rfl) (fun i v a b s => by unfold impl_sums_l86; rw [sel_no (by simp)])
 have e2 : loop (impl_sums_l158 (half8 p)) (0, List.replicate (64 : Int).toNat 0) = some (sums8 p) :=
  sum_loops (f2 := impl_sums_l170 (half8 p)) (f3 := impl_sums_l172 (half8 p)) (fun i v k => colT (half8 p) i v k) (fun _ => rfl) (fun _ _ => rfl) (fun i v k a b s hi hv hk hs => by
   have hl := half8_len p
   unfold impl_sums_l172
   simp only
   rw [sel_yes (by omega), wk (e := 8 * (i : Int)) (by omega) (by omega), wk (e := 8 * (i : Int) + (v : Int)) (by omega) (by omega), wk (e := 8 * (k : Int)) (by omega) (by omega), wk (e := 8 * (k : Int) + (v : Int)) (by omega) (by omega), req_p (by omega), req_p (by omega), SignOf_alike i k hi hk, bnd_s, req_p (by omega), req_p (by omega), req_p (by omega), req_p (by omega), wk (e := (k : Int) + 1) (by omega) (by omega), show (8 * (i : Int) + (v : Int)).toNat = 8 * i + v by omega, show (8 * (k : Int) + (v : Int)).toNat = 8 * k + v by omega]
   rfl) (fun i v a b s => by unfold impl_sums_l172; rw [sel_no (by simp)])
 rw [e1, bnd_s, req_p (by omega), e2, bnd_s]
theorem spec_l10Row_eq (p : List Int) (hp : p.length = 64) (i v : Nat) (hi : i < 8) (hv : v < 8) : spec_l10Row p i v = some (acc8 (rowT p i v) 8) := by
 obtain ⟨o, e, h⟩ := acc_loop (f := spec_l10Row_l2 p i v) 8 (fun k s => s = acc8 (rowT p i v) k) (by
  intro k s hk g
  subst g
  unfold spec_l10Row_l2
  simp only
  rw [sel_yes (by omega), wk (e := 8 * (i : Int)) (by omega) (by omega), wk (e := 8 * (i : Int) + (k : Int)) (by omega) (by omega), req_p (by omega), spec_SignOf_eq v k hv hk, bnd_s, wk (e := (k : Int) + 1) (by omega) (by omega), show (8 * (i : Int) + (k : Int)).toNat = 8 * i + k by omega, Int.mul_comm (p.getD _ _)]
  exact ⟨_, rfl, rfl⟩) (by intro s; unfold spec_l10Row_l2; rw [sel_no (by simp)]) 0 rfl
 unfold spec_l10Row
 rw [e, bnd_s, h]
theorem spec_l10Sums_eq (p : List Int) (hp : p.length = 64) : spec_l10Sums p = some (sums8 p) := by
 have hm : maxLen = 9223372036854775807 := rfl
 unfold spec_l10Sums
 obtain ⟨o, e, ho⟩ := st_loop (f := spec_l10Sums_l12 p) 8 (fun i s => s = (List.range (8 * i)).map fun j => acc8 (rowT p (j / 8) (j % 8)) 8) (by
  intro i s hi g
  subst g
  obtain ⟨r, er, hr⟩ := st_loop (f := spec_l10Sums_l14 p ((i : Int), (List.range (8 * i)).map fun j => acc8 (rowT p (j / 8) (j % 8)) 8)) 8 (fun v s => s = (List.range (8 * i + v)).map fun j => acc8 (rowT p (j / 8) (j % 8)) 8) (by
   intro v s hv g
   subst g
   unfold spec_l10Sums_l14
   simp only
   rw [sel_yes (by omega), spec_l10Row_eq p hp i v hi hv, bnd_s, req_p (by simp only [List.length_singleton, List.length_map, List.length_range]; omega), wk (e := (v : Int) + 1) (by omega) (by omega)]
   refine ⟨_, rfl, ?_⟩
   rw [show 8 * i + (v + 1) = (8 * i + v) + 1 by omega, List.range_succ, List.map_append, List.map_singleton, show (8 * i + v) / 8 = i by omega, show (8 * i + v) % 8 = v by omega]) (by intro s; unfold spec_l10Sums_l14; rw [sel_no (by simp)]) _ rfl
  rw [Nat.add_zero] at er
  unfold spec_l10Sums_l12
  simp only
  rw [sel_yes (by omega), er, bnd_s, wk (e := (i : Int) + 1) (by omega) (by omega)]
  exact ⟨_, rfl, by rw [hr, show 8 * (i + 1) = 8 * i + 8 by omega]⟩) (by intro s; unfold spec_l10Sums_l12; rw [sel_no (by simp)]) [] rfl
 have ho' : o = half8 p := by rw [ho]; rfl
 rw [e, bnd_s, ho']
 obtain ⟨o2, e2, ho2⟩ := st_loop (f := spec_l10Sums_l146 (half8 p)) 8 (fun i s => s = (List.range (8 * i)).map fun j => acc8 (colT (half8 p) (j / 8) (j % 8)) 8) (by
  intro i s hi g
  subst g
  obtain ⟨r, er, hr⟩ := st_loop (f := spec_l10Sums_l168 (half8 p) ((i : Int), (List.range (8 * i)).map fun j => acc8 (colT (half8 p) (j / 8) (j % 8)) 8)) 8 (fun v s => s = (List.range (8 * i + v)).map fun j => acc8 (colT (half8 p) (j / 8) (j % 8)) 8) (by
   intro v s hv g
   obtain ⟨c, ec, hc⟩ := acc_loop (f := spec_l10Sums_l172 (half8 p) ((i : Int), (List.range (8 * i)).map fun j => acc8 (colT (half8 p) (j / 8) (j % 8)) 8) ((v : Int), s)) 8 (fun k x => x = acc8 (colT (half8 p) i v) k) (by
    intro k x hk g
    subst g
    have hl := half8_len p
    unfold spec_l10Sums_l172
    simp only
    rw [sel_yes (by omega), spec_SignOf_eq i k hi hk, bnd_s, wk (e := 8 * (k : Int)) (by omega) (by omega), wk (e := 8 * (k : Int) + (v : Int)) (by omega) (by omega), req_p (by omega), req_p (by omega), wk (e := (k : Int) + 1) (by omega) (by omega), show (8 * (k : Int) + (v : Int)).toNat = 8 * k + v by omega]
    exact ⟨_, rfl, rfl⟩) (by intro s; unfold spec_l10Sums_l172; rw [sel_no (by simp)]) 0 rfl
   subst g
   unfold spec_l10Sums_l168
   simp only
   rw [sel_yes (by omega), ec, bnd_s, req_p (by simp only [List.length_singleton, List.length_map, List.length_range]; omega), wk (e := (v : Int) + 1) (by omega) (by omega)]
   refine ⟨_, rfl, ?_⟩
   rw [hc, show 8 * i + (v + 1) = (8 * i + v) + 1 by omega, List.range_succ, List.map_append, List.map_singleton, show (8 * i + v) / 8 = i by omega, show (8 * i + v) % 8 = v by omega]) (by intro s; unfold spec_l10Sums_l168; rw [sel_no (by simp)]) _ rfl
  rw [Nat.add_zero] at er
  unfold spec_l10Sums_l146
  simp only
  rw [sel_yes (by omega), er, bnd_s, wk (e := (i : Int) + 1) (by omega) (by omega)]
  exact ⟨_, rfl, by rw [hr, show 8 * (i + 1) = 8 * i + 8 by omega]⟩) (by intro s; unfold spec_l10Sums_l146; rw [sel_no (by simp)]) [] rfl
 rw [e2, bnd_s, ho2]
 rfl
theorem areIn_yes (l : List Int) (n B : Int) (hn : (l.length : Int) = n) (hn2 : n ≤ 1000000) (h : inB B l) : impl_areIn l n (-B) B = some true := by
 rw [impl_areIn_eq l n (-B) B (by omega), hn, beq_self_eq_true, Bool.and_true]
 congr 1
 rw [List.all_eq_true]
 intro x hx
 rw [decide_eq_true_eq]; exact h x hx
theorem settled_alike (o : List Int) {f : Int × List Int → Option (Lp (Int × List Int) (List Int))} (n : Nat) (hn : n ≤ 64) (hl : o.length = n) (hf : ∀ v : Int × List Int, f v = sel (decide (v.1 < (n : Int))) (req (0 ≤ v.1 ∧ v.1 < v.2.length) <| req (v.1.toNat < v.2.length) <| bnd (spec_l09Down (wrapK .i64 ((v.2.getD v.1.toNat 0) + 32)) 64) fun q => req (0 ≤ v.1 ∧ v.1 < v.2.length) <| req (v.1.toNat < v.2.length) <| some (.go (wrapK .i64 (v.1 + 1), (v.2.set v.1.toNat q)))) (some (.done v.2))) : bnd (impl_settled o) (fun q => some q.2) = bnd (loop f (0, o)) fun q => some q := by
 unfold impl_settled
 have : impl_settled_l2 o = f := by
  funext v
  rw [hf, ← hl]; rfl
 rw [this]
 cases loop f (0, o) <;> rfl
theorem EightBack_alike (p : List Int) (hl : p.length = 64) (hb : inB 10000000 p) : impl_EightBack p = spec_EightBack p := by
 unfold impl_EightBack spec_EightBack
 rw [areIn_yes p 64 10000000 (by omega) (by omega) hb, l09All_yes p 64 10000000 (by omega) (by omega) (by omega) hb, bnd_s, bnd_s, Bool.not_true, sel_f, sel_f, impl_sums_eq p hl, spec_l10Sums_eq p hl, bnd_s, bnd_s]
 exact settled_alike (sums8 p) 64 (by omega) (sums8_len p) (fun _ => rfl)
def tgA (q : Int → Int → Int → Int → Option (Int × Int × Int × Int)) (v4 : (Int × (List Int))) : Option (Lp (Int × (List Int)) (List Int)) :=
sel (decide (v4.1 < 16)) (
req (0 ≤ v4.1 ∧ v4.1 < v4.2.length) <|
req (v4.1.toNat < v4.2.length) <|
req (0 ≤ (wrapK .i64 (v4.1 + 1)) ∧ (wrapK .i64 (v4.1 + 1)) < v4.2.length) <|
req ((wrapK .i64 (v4.1 + 1)).toNat < v4.2.length) <|
req (0 ≤ (wrapK .i64 (v4.1 + 2)) ∧ (wrapK .i64 (v4.1 + 2)) < v4.2.length) <|
req ((wrapK .i64 (v4.1 + 2)).toNat < v4.2.length) <|
req (0 ≤ (wrapK .i64 (v4.1 + 3)) ∧ (wrapK .i64 (v4.1 + 3)) < v4.2.length) <|
req ((wrapK .i64 (v4.1 + 3)).toNat < v4.2.length) <|
bnd (q (v4.2.getD v4.1.toNat 0) (v4.2.getD ((wrapK .i64 (v4.1 + 1)).toNat) 0) (v4.2.getD ((wrapK .i64 (v4.1 + 2)).toNat) 0) (v4.2.getD ((wrapK .i64 (v4.1 + 3)).toNat) 0)) fun q8 =>
req (0 ≤ v4.1 ∧ v4.1 ≤ (wrapK .i64 (v4.1 + 4)) ∧ (wrapK .i64 (v4.1 + 4)) ≤ (v4.2.length : Int)) <|
req ((v4.1.toNat + ((wrapK .i64 (v4.1 + 4)).toNat - v4.1.toNat) ≤ v4.2.length ∧ ([q8.1, q8.2.1, q8.2.2.1, q8.2.2.2]).length ≤ ((wrapK .i64 (v4.1 + 4)).toNat - v4.1.toNat))) <|
some (.go (wrapK .i64 (v4.1 + 4), (over v4.2 v4.1.toNat ([q8.1, q8.2.1, q8.2.2.1, q8.2.2.2]))))) (
some (.done v4.2))
def tgB (v17 : (Int × (List Int))) (q26 : (Int × Int × Int × Int)) (v28 : (Int × (List Int))) : Option (Lp (Int × (List Int)) (List Int)) :=
sel (decide (v28.1 < 4)) (
req (0 ≤ v28.1 ∧ v28.1 < ([q26.1, q26.2.1, q26.2.2.1, q26.2.2.2] : List Int).length) <|
req (0 ≤ (wrapK .i64 (v17.1 + (wrapK .i64 (4 * v28.1)))) ∧ (wrapK .i64 (v17.1 + (wrapK .i64 (4 * v28.1)))) < v28.2.length) <|
req ((wrapK .i64 (v17.1 + (wrapK .i64 (4 * v28.1)))).toNat < v28.2.length) <|
some (.go (wrapK .i64 (v28.1 + 1), (v28.2.set ((wrapK .i64 (v17.1 + (wrapK .i64 (4 * v28.1)))).toNat) (([q26.1, q26.2.1, q26.2.2.1, q26.2.2.2] : List Int).getD v28.1.toNat 0))))) (
some (.done v28.2))
noncomputable def tgC (q : Int → Int → Int → Int → Option (Int × Int × Int × Int)) (v17 : (Int × (List Int))) : Option (Lp (Int × (List Int)) (List Int)) :=
sel (decide (v17.1 < 4)) (
req (0 ≤ v17.1 ∧ v17.1 < v17.2.length) <|
req (v17.1.toNat < v17.2.length) <|
req (0 ≤ (wrapK .i64 (v17.1 + 4)) ∧ (wrapK .i64 (v17.1 + 4)) < v17.2.length) <|
req ((wrapK .i64 (v17.1 + 4)).toNat < v17.2.length) <|
req (0 ≤ (wrapK .i64 (v17.1 + 8)) ∧ (wrapK .i64 (v17.1 + 8)) < v17.2.length) <|
req ((wrapK .i64 (v17.1 + 8)).toNat < v17.2.length) <|
req (0 ≤ (wrapK .i64 (v17.1 + 12)) ∧ (wrapK .i64 (v17.1 + 12)) < v17.2.length) <|
req ((wrapK .i64 (v17.1 + 12)).toNat < v17.2.length) <|
bnd (q (v17.2.getD v17.1.toNat 0) (v17.2.getD ((wrapK .i64 (v17.1 + 4)).toNat) 0) (v17.2.getD ((wrapK .i64 (v17.1 + 8)).toNat) 0) (v17.2.getD ((wrapK .i64 (v17.1 + 12)).toNat) 0)) fun q26 =>
bnd (loop (tgB v17 q26) (0, v17.2)) fun v30 =>
some (.go (wrapK .i64 (v17.1 + 1), v30))) (
some (.done v17.2))
noncomputable def turnG (q : Int → Int → Int → Int → Option (Int × Int × Int × Int)) (p0 : (List Int)) : Option (List Int) :=
bnd (impl_copyInts p0) fun q1 =>
bnd (loop (tgA q) (0, q1)) fun v7 =>
bnd (loop (tgC q) (0, v7)) fun v25 =>
some v25
theorem turn_back : impl_turned_impl_FourBack_1 = turnG impl_FourBack_1 := rfl
abbrev Q4 := Int × Int × Int × Int
def pick4 (q : Q4) (i : Nat) : Int := [q.1, q.2.1, q.2.2.1, q.2.2.2].getD i 0
def rows4 (t : Int → Int → Int → Int → Q4) (p : List Int) : List Int := (List.range 16).map fun j => pick4 (t (p.getD (4 * (j / 4)) 0) (p.getD (4 * (j / 4) + 1) 0) (p.getD (4 * (j / 4) + 2) 0) (p.getD (4 * (j / 4) + 3) 0)) (j % 4)
def flip4 (p : List Int) : List Int := (List.range 16).map fun j => p.getD (j % 4 * 4 + j / 4) 0
theorem rows4_len (t : Int → Int → Int → Int → Q4) (p : List Int) : (rows4 t p).length = 16 := by simp [rows4]
theorem flip4_len (p : List Int) : (flip4 p).length = 16 := by simp [flip4]
theorem over_getD {l m : List Int} {i : Nat} (h : i + m.length ≤ l.length) (j : Nat) : (over l i m).getD j 0 = if i ≤ j ∧ j < i + m.length then m.getD (j - i) 0 else l.getD j 0 := by
 rw [List.getD_eq_getElem?_getD, over_get h]
 split <;> rw [List.getD_eq_getElem?_getD]
theorem turnG_eq {q : Int → Int → Int → Int → Option Q4} {t : Int → Int → Int → Int → Q4} (hq : ∀ a b c d, q a b c d = some (t a b c d)) (p : List Int) (hp : p.length = 16) : turnG q p = some (flip4 (rows4 t (flip4 (rows4 t p)))) := by
 have hm : maxLen = 9223372036854775807 := rfl
 unfold turnG impl_copyInts
 rw [req_p (by simp only [List.length_nil]; omega), bnd_s, List.nil_append]
 have hA : loop (tgA q) (0, p) = some (rows4 t p) := by
  have key : ∀ r : Nat, r ≤ 4 → ∀ s : List Int, s.length = 16 → (∀ j, j < 4 * r → s.getD j 0 = (rows4 t p).getD j 0) → (∀ j, 4 * r ≤ j → s.getD j 0 = p.getD j 0) → loop (tgA q) (((4 * r : Nat) : Int), s) = some (rows4 t p) := by
   refine down_to _ ?_ ?_
   ·
    intro s h1 h2 _
    refine ldone ?_
    unfold tgA
    rw [sel_no (by simp), list_eq h1 (rows4_len t p) h2]
   ·
    intro r hr ih s h1 h2 h3
    refine lgo (y := (((4 * (r + 1) : Nat) : Int), over s (4 * r) [pick4 (t (p.getD (4 * r) 0) (p.getD (4 * r + 1) 0) (p.getD (4 * r + 2) 0) (p.getD (4 * r + 3) 0)) 0, pick4 (t (p.getD (4 * r) 0) (p.getD (4 * r + 1) 0) (p.getD (4 * r + 2) 0) (p.getD (4 * r + 3) 0)) 1, pick4 (t (p.getD (4 * r) 0) (p.getD (4 * r + 1) 0) (p.getD (4 * r + 2) 0) (p.getD (4 * r + 3) 0)) 2, pick4 (t (p.getD (4 * r) 0) (p.getD (4 * r + 1) 0) (p.getD (4 * r + 2) 0) (p.getD (4 * r + 3) 0)) 3])) ?_ (ih _ ?_ ?_ ?_)
    ·
     unfold tgA
     simp only
     rw [sel_yes (by omega), wk (e := ((4 * r : Nat) : Int) + 1) (by omega) (by omega), wk (e := ((4 * r : Nat) : Int) + 2) (by omega) (by omega), wk (e := ((4 * r : Nat) : Int) + 3) (by omega) (by omega), wk (e := ((4 * r : Nat) : Int) + 4) (by omega) (by omega)]
     rw [req_p (by omega), req_p (by omega), req_p (by omega), req_p (by omega), req_p (by omega), req_p (by omega), req_p (by omega), req_p (by omega), hq, bnd_s, req_p (by omega), req_p (by simp only [List.length_cons, List.length_nil]; omega)]
     rw [show (((4 * r : Nat) : Int) + 1).toNat = 4 * r + 1 by omega, show (((4 * r : Nat) : Int) + 2).toNat = 4 * r + 2 by omega, show (((4 * r : Nat) : Int) + 3).toNat = 4 * r + 3 by omega, Int.toNat_natCast, h3 _ (by omega), h3 _ (by omega), h3 _ (by omega), h3 _ (by omega)]
     rfl
    ·
     rw [over_length (by simp only [List.length_cons, List.length_nil]; omega)]; exact h1
    ·
     intro j hj
     rw [over_getD (by simp only [List.length_cons, List.length_nil]; omega)]
     simp only [List.length_cons, List.length_nil]
     by_cases h : 4 * r ≤ j
     ·
      rw [if_pos (by omega)]
      unfold rows4
      rw [getD_map _ (by omega), show 4 * (j / 4) = 4 * r by omega]
      obtain h | h | h | h : j = 4 * r ∨ j = 4 * r + 1 ∨ j = 4 * r + 2 ∨ j = 4 * r + 3 := by omega
      ·
       rw [h, show 4 * r - 4 * r = 0 by omega, show (4 * r) % 4 = 0 by omega]; rfl
      ·
       rw [h, show 4 * r + 1 - 4 * r = 1 by omega, show (4 * r + 1) % 4 = 1 by omega]; rfl
      ·
       rw [h, show 4 * r + 2 - 4 * r = 2 by omega, show (4 * r + 2) % 4 = 2 by omega]; rfl
      ·
       rw [h, show 4 * r + 3 - 4 * r = 3 by omega, show (4 * r + 3) % 4 = 3 by omega]; rfl
     ·
      rw [if_neg (by omega)]; exact h2 j (by omega)
    ·
     intro j hj
     rw [over_getD (by simp only [List.length_cons, List.length_nil]; omega), if_neg (by simp only [List.length_cons, List.length_nil]; omega)]
     exact h3 j (by omega)
  exact key 0 (by omega) p hp (fun j hj => by omega) fun _ _ => rfl
 rw [hA, bnd_s]
 generalize hR : rows4 t p = R
 have hl : R.length = 16 := by rw [← hR]; exact rows4_len t p
 have hC : loop (tgC q) (0, R) = some (flip4 (rows4 t (flip4 R))) := by
  have at4 : ∀ j : Nat, j < 16 → (flip4 (rows4 t (flip4 R))).getD j 0 = pick4 (t (R.getD (j % 4) 0) (R.getD (j % 4 + 4) 0) (R.getD (j % 4 + 8) 0) (R.getD (j % 4 + 12) 0)) (j / 4) := by
   intro j hj
   rw [flip4, getD_map _ hj, rows4, getD_map _ (by omega), flip4, getD_map _ (by omega), getD_map _ (by omega), getD_map _ (by omega), getD_map _ (by omega)]
   rw [show (j % 4 * 4 + j / 4) / 4 = j % 4 by omega, show (j % 4 * 4 + j / 4) % 4 = j / 4 by omega, show 4 * (j % 4) % 4 * 4 + 4 * (j % 4) / 4 = j % 4 by omega, show (4 * (j % 4) + 1) % 4 * 4 + (4 * (j % 4) + 1) / 4 = j % 4 + 4 by omega, show (4 * (j % 4) + 2) % 4 * 4 + (4 * (j % 4) + 2) / 4 = j % 4 + 8 by omega, show (4 * (j % 4) + 3) % 4 * 4 + (4 * (j % 4) + 3) / 4 = j % 4 + 12 by omega]
  obtain ⟨o, e, o1, o2, _⟩ := st_loop2 (f := tgC q) 4 (fun c s => s.length = 16 ∧ (∀ j, j < 16 → j % 4 < c → s.getD j 0 = (flip4 (rows4 t (flip4 R))).getD j 0) ∧ ∀ j, j < 16 → c ≤ j % 4 → s.getD j 0 = R.getD j 0) (by
   intro c s hc ⟨g1, g2, g3⟩
   obtain ⟨r, er, r1, r2, r3⟩ := st_loop2 (f := tgB ((c : Int), s) (t (R.getD c 0) (R.getD (c + 4) 0) (R.getD (c + 8) 0) (R.getD (c + 12) 0))) 4 (fun i s' => s'.length = 16 ∧ (∀ j, j < 16 → j % 4 ≠ c → s'.getD j 0 = s.getD j 0) ∧ ∀ j, j < 16 → j % 4 = c → j / 4 < i → s'.getD j 0 = pick4 (t (R.getD c 0) (R.getD (c + 4) 0) (R.getD (c + 8) 0) (R.getD (c + 12) 0)) (j / 4)) (by
    intro i s' hi ⟨k1, k2, k3⟩
    unfold tgB
    simp only
    rw [sel_yes (by omega), req_p (by simp only [List.length_cons, List.length_nil]; omega), wk (e := 4 * (i : Int)) (by omega) (by omega), wk (e := (c : Int) + 4 * (i : Int)) (by omega) (by omega), req_p (by omega), req_p (by omega), wk (e := (i : Int) + 1) (by omega) (by omega), show ((c : Int) + 4 * (i : Int)).toNat = c + 4 * i by omega, Int.toNat_natCast]
    refine ⟨_, rfl, by rw [List.length_set]; exact k1, fun j hj hjc => ?_, fun j hj hjc hji => ?_⟩
    ·
     rw [getD_set_at _ _ _ _ (by omega), if_neg (by omega)]; exact k2 j hj hjc
    ·
     rw [getD_set_at _ _ _ _ (by omega)]
     by_cases h : c + 4 * i = j
     ·
      rw [if_pos h, show j / 4 = i by omega]; rfl
     ·
      rw [if_neg h]; exact k3 j hj hjc (by omega)) (fun z _ => by unfold tgB; rw [sel_no (by simp)]) s ⟨g1, fun _ _ _ => rfl, fun j hj hjc hji => by omega⟩
   unfold tgC
   simp only
   rw [sel_yes (by omega), wk (e := (c : Int) + 4) (by omega) (by omega), wk (e := (c : Int) + 8) (by omega) (by omega), wk (e := (c : Int) + 12) (by omega) (by omega), req_p (by omega), req_p (by omega), req_p (by omega), req_p (by omega), req_p (by omega), req_p (by omega), req_p (by omega), req_p (by omega), hq, bnd_s, show ((c : Int) + 4).toNat = c + 4 by omega, show ((c : Int) + 8).toNat = c + 8 by omega, show ((c : Int) + 12).toNat = c + 12 by omega, Int.toNat_natCast, g3 c (by omega) (by omega), g3 (c + 4) (by omega) (by omega), g3 (c + 8) (by omega) (by omega), g3 (c + 12) (by omega) (by omega), er, bnd_s, wk (e := (c : Int) + 1) (by omega) (by omega)]
   refine ⟨r, rfl, r1, fun j hj hjc => ?_, fun j hj hjc => ?_⟩
   ·
    by_cases h : j % 4 = c
    ·
     rw [r3 j hj h (by omega), at4 j hj, h]
    ·
     rw [r2 j hj h]; exact g2 j hj (by omega)
   ·
    rw [r2 j hj (by omega)]; exact g3 j hj (by omega)) (fun z _ => by unfold tgC; rw [sel_no (by simp)]) R ⟨hl, fun j hj hjc => by omega, fun _ _ _ => rfl⟩
  rw [e]
  congr 1
  exact list_eq o1 (flip4_len _) fun j hj => o2 j hj (by omega)
 rw [hC, bnd_s]
theorem spec_l09Flip_eq (p : List Int) (hl : p.length = 16) : spec_l09Flip p = some (flip4 p) := by
 unfold spec_l09Flip
 rw [req_p (by omega)]
 obtain ⟨o, e, o1, o2⟩ := st_loop2 (f := spec_l09Flip_l2 p) 16 (fun i s => s.length = 16 ∧ ∀ j, j < 16 → j % 4 * 4 + j / 4 < i → s.getD j 0 = p.getD (j % 4 * 4 + j / 4) 0) (by
  intro i s hi ⟨g1, g2⟩
  unfold spec_l09Flip_l2
  simp only
  rw [sel_yes (by omega), req_p (by omega), req_p (by omega), req_p (by omega), tmod_pos (by omega), tdiv_pos (by omega), wk (e := (i : Int) / 4) (by omega) (by omega), wk (e := (i : Int) % 4 * 4) (by omega) (by omega), wk (e := (i : Int) % 4 * 4 + (i : Int) / 4) (by omega) (by omega), req_p (by omega), req_p (by omega), wk (e := (i : Int) + 1) (by omega) (by omega), Int.toNat_natCast, show ((i : Int) % 4 * 4 + (i : Int) / 4).toNat = i % 4 * 4 + i / 4 by omega]
  refine ⟨_, rfl, by rw [List.length_set]; exact g1, fun j hj hji => ?_⟩
  rw [getD_set_at _ _ _ _ (by omega)]
  by_cases h : i % 4 * 4 + i / 4 = j
  ·
   rw [if_pos h, show j % 4 * 4 + j / 4 = i by omega]
  ·
   rw [if_neg h]; exact g2 j hj (by omega)) (fun z _ => by unfold spec_l09Flip_l2; rw [sel_no (by simp)]) (List.replicate (16 : Int).toNat 0) ⟨by simp, fun j hj h => by omega⟩
 rw [e, bnd_s]
 congr 1
 exact list_eq o1 (flip4_len p) fun j hj => by rw [o2 j hj (by omega), flip4, getD_map _ hj]
theorem rows_list {f : Int × List Int → Option (Lp (Int × List Int) (List Int))} {t : Int → Int → Int → Int → Q4} (p : List Int) (h : ∀ (i : Nat) (s : List Int), i < 4 → s.length = 4 * i → f ((i : Int), s) = some (.go (((i + 1 : Nat) : Int), s ++ [(t (p.getD (4 * i) 0) (p.getD (4 * i + 1) 0) (p.getD (4 * i + 2) 0) (p.getD (4 * i + 3) 0)).1, (t (p.getD (4 * i) 0) (p.getD (4 * i + 1) 0) (p.getD (4 * i + 2) 0) (p.getD (4 * i + 3) 0)).2.1, (t (p.getD (4 * i) 0) (p.getD (4 * i + 1) 0) (p.getD (4 * i + 2) 0) (p.getD (4 * i + 3) 0)).2.2.1, (t (p.getD (4 * i) 0) (p.getD (4 * i + 1) 0) (p.getD (4 * i + 2) 0) (p.getD (4 * i + 3) 0)).2.2.2]))) (he : ∀ s, f (4, s) = some (.done s)) : loop f (0, []) = some (rows4 t p) := by
 obtain ⟨o, e, ho⟩ := st_loop2 (f := f) 4 (fun i s => s = (List.range (4 * i)).map fun j => pick4 (t (p.getD (4 * (j / 4)) 0) (p.getD (4 * (j / 4) + 1) 0) (p.getD (4 * (j / 4) + 2) 0) (p.getD (4 * (j / 4) + 3) 0)) (j % 4)) (by
  intro i s hi g
  refine ⟨_, h i s hi (by rw [g]; simp), ?_⟩
  rw [g, show 4 * (i + 1) = 4 * i + 1 + 1 + 1 + 1 by omega]
  simp only [List.range_succ, List.map_append, List.map_singleton, List.append_assoc]
  rw [show (4 * i + 1 + 1 + 1) / 4 = i by omega, show (4 * i + 1 + 1) / 4 = i by omega, show (4 * i + 1) / 4 = i by omega, show 4 * i / 4 = i by omega, show (4 * i + 1 + 1 + 1) % 4 = 3 by omega, show (4 * i + 1 + 1) % 4 = 2 by omega, show (4 * i + 1) % 4 = 1 by omega, show 4 * i % 4 = 0 by omega]
  rfl) (fun z _ => he z) [] rfl
 rw [e, ho]; rfl
def downTo (a b : Int) : Int := wrapK .i64 (if a.tmod b < 0 then wrapK .i64 (a.tdiv b) - 1 else a.tdiv b)
theorem l09Down_eq (a b : Int) (hb : b ≠ 0) : spec_l09Down a b = some (downTo a b) := by
 unfold spec_l09Down downTo
 rw [req_p hb, req_p hb, sel_d]
 split <;> rfl
def t4B (a b c d : Int) : Q4 := (wrapK .i64 ((wrapK .i64 (a + c)) + (wrapK .i64 (b + downTo d 2))), wrapK .i64 ((wrapK .i64 (a - c)) + (wrapK .i64 (downTo b 2 - d))), wrapK .i64 ((wrapK .i64 (a - c)) - (wrapK .i64 (downTo b 2 - d))), wrapK .i64 ((wrapK .i64 (a + c)) - (wrapK .i64 (b + downTo d 2))))
theorem impl_FourBack_1_eq (a b c d : Int) : impl_FourBack_1 a b c d = some (t4B a b c d) := by
 unfold impl_FourBack_1
 rw [floor_alike, l09Down_eq b 2 (by omega), l09Down_eq d 2 (by omega), bnd_s, bnd_s]; rfl
theorem spec_l09Backs_eq (p : List Int) (hl : p.length = 16) : spec_l09Backs p = some (rows4 t4B p) := by
 have hm : maxLen = 9223372036854775807 := rfl
 unfold spec_l09Backs
 rw [rows_list (f := spec_l09Backs_l2 p) (t := t4B) p (by
  intro i s hi hs
  unfold spec_l09Backs_l2
  simp only
  rw [sel_yes (by omega), wk (e := 4 * (i : Int)) (by omega) (by omega), wk (e := 4 * (i : Int) + 1) (by omega) (by omega), wk (e := 4 * (i : Int) + 2) (by omega) (by omega), wk (e := 4 * (i : Int) + 3) (by omega) (by omega), req_p (by omega), req_p (by omega), req_p (by omega), req_p (by omega), show (4 * (i : Int)).toNat = 4 * i by omega, show (4 * (i : Int) + 1).toNat = 4 * i + 1 by omega, show (4 * (i : Int) + 2).toNat = 4 * i + 2 by omega, show (4 * (i : Int) + 3).toNat = 4 * i + 3 by omega, l09Down_eq _ 2 (by omega), bnd_s, l09Down_eq _ 2 (by omega), bnd_s, wk (e := (i : Int) + 1) (by omega) (by omega), req_p (by simp only [List.length_cons, List.length_nil]; omega)]
  rfl) (by intro s; unfold spec_l09Backs_l2; rw [sel_no (by simp)]), bnd_s]
theorem FourBack_alike (p : List Int) (hl : p.length = 16) (hb : inB 10000000 p) : impl_FourBack p = spec_FourBack p := by
 unfold impl_FourBack spec_FourBack
 rw [areIn_yes p 16 10000000 (by omega) (by omega) hb, l09All_yes p 16 10000000 (by omega) (by omega) (by omega) hb, bnd_s, bnd_s, Bool.not_true, sel_f, sel_f, turn_back, turnG_eq impl_FourBack_1_eq p hl, spec_l09Backs_eq p hl, bnd_s, bnd_s, spec_l09Flip_eq _ (rows4_len _ _), bnd_s, spec_l09Backs_eq _ (flip4_len _), bnd_s, spec_l09Flip_eq _ (rows4_len _ _), bnd_s]
 exact settled_alike _ 16 (by omega) (flip4_len _) (fun _ => rfl)
theorem req_c {β : Type} {c : Prop} [Decidable c] {k k' : Option β} (h : c → k = k') : req c k = req c k' := by
 by_cases hc : c
 ·
  rw [req_p hc, req_p hc, h hc]
 ·
  unfold req; rw [if_neg hc, if_neg hc]
theorem req_pc {β : Type} {c : Prop} [Decidable c] {k k' : Option β} (h0 : c) (h : k = k') : req c k = k' := by rw [req_p h0, h]
theorem sel_c {β : Type} {b : Bool} {x x' y y' : β} (h : b = true → x = x') (h2 : b = false → y = y') : sel b x y = sel b x' y' := by
 cases b
 ·
  exact h2 rfl
 ·
  exact h rfl
theorem bnd_c {α β : Type} {x x' : Option α} {f f' : α → Option β} (h : x = x') (h2 : ∀ a, x' = some a → f a = f' a) : bnd x f = bnd x' f' := by
 subst h
 cases x with
 | none => rfl
 | some a => exact h2 a rfl
theorem loop_keep {V O : Type} {f : V → Option (Lp V O)} (I : V → Prop) (J : O → Prop) (h1 : ∀ v v', I v → f v = some (.go v') → I v') (h2 : ∀ v o, I v → f v = some (.done o) → J o) {v : V} {o : O} (h : loop f v = some o) (hv : I v) : J o := by
 obtain ⟨k, hk⟩ := loop_it.1 h
 clear h
 induction k generalizing v with
 | zero => cases hk
 | succ k ih =>
  rw [it] at hk
  cases e : f v with
  | none => rw [e] at hk; cases hk
  | some s =>
   rw [e] at hk
   cases s with
   | go y => exact ih (h1 v y hv e) hk
   | done o' => cases hk; exact h2 v o hv e
theorem SmallBack_alike (l qp p : Int) (h0 : 0 ≤ qp ∧ qp ≤ 40) (hp : 0 ≤ p ∧ p ≤ 15) : impl_SmallBack l qp p = spec_SmallBack l qp p := by
 unfold impl_SmallBack spec_SmallBack
 rw [impl_within_eq, spec_l01In_eq, ScaleOf_alike qp p h0 hp]
theorem LargeBack_alike (l qp : Int) (h0 : 0 ≤ qp ∧ qp ≤ 40) : impl_LargeBack l qp = spec_LargeBack l qp := by
 unfold impl_LargeBack spec_LargeBack
 rw [impl_within_eq, spec_l01In_eq, StepOf_alike qp h0]
def quarterIn (k : Int) (v7 : Int × List Int) : Option (Lp (Int × List Int) (List Int)) :=
 sel (decide (v7.1 < 4)) (
 bnd (it (impl_quarter_l14 k v7) 10 (0, v7.2)) fun v18 =>
 some (.go (wrapK .i64 (v7.1 + 1), v18))) (
 some (.done v7.2))
theorem quarterIn_is {k : Int} {v : Int × List Int} {x : Lp (Int × List Int) (List Int)} (h : quarterIn k v = some x) : impl_quarter_l12 k v = some x := by
 unfold quarterIn at h
 unfold impl_quarter_l12
 rcases sel_some h with ⟨hb, h⟩ | ⟨hb, h⟩
 ·
  rw [hb, sel_t]
  obtain ⟨a, h1, h2⟩ := bnd_some h
  rw [loop_it.2 ⟨10, h1⟩, bnd_s]
  exact h2
 ·
  rw [hb, sel_f]; exact h
def quarterL (k : Int) : List Int := (it (quarterIn k) 10 (0, [])).getD []
def quarterAt (k i : Int) : Int := (wrapK .i64 ((wrapK .i64 ((wrapK .i64 (8 * (wrapK .i64 ((wrapK .i64 ((wrapK .i64 (k.tdiv 2)) * 4)) + (wrapK .i64 (i.tdiv 4)))))) + (wrapK .i64 ((k.tmod 2) * 4)))) + (i.tmod 4)))
theorem quarter_all : ∀ k : Fin 4, (it (quarterIn (k.val : Int)) 10 (0, [])).isSome = true ∧ (quarterL (k.val : Int)).length = 16 ∧ ∀ i : Fin 16, (quarterL (k.val : Int)).getD i.val 0 = quarterAt (k.val : Int) (i.val : Int) ∧ 0 ≤ quarterAt (k.val : Int) (i.val : Int) ∧ quarterAt (k.val : Int) (i.val : Int) < 64 := by decide +kernel
theorem impl_quarter_eq (k : Nat) (hk : k < 4) : impl_quarter k = some (quarterL k) ∧ (quarterL k).length = 16 ∧ ∀ i : Nat, i < 16 → (quarterL k).getD i 0 = quarterAt k i ∧ 0 ≤ quarterAt k i ∧ quarterAt k i < 64 := by
 obtain ⟨h1, h2, h3⟩ := quarter_all ⟨k, hk⟩
 refine ⟨?_, h2, fun i hi => h3 ⟨i, hi⟩⟩
 obtain ⟨o, ho⟩ := Option.isSome_iff_exists.1 h1
 have hl := loop_of 10 (it_of (fun v y => quarterIn_is (k := (k : Int))) 10 _ ho)
 unfold impl_quarter
 rw [hl, bnd_s]
 unfold quarterL; simp only at ho; rw [ho]; rfl
theorem LevelsBack_alike (p : List Int) (c : Cond) (hc : condOk c = true) (hp : lv64 p = true) : impl_LevelsBack p c = spec_LevelsBack p c := by
 have hq := condOk_qp hc
 obtain ⟨hl, hb⟩ := lv64_in hp
 unfold impl_LevelsBack spec_LevelsBack
 rw [spec_CondOk_eq, impl_CondOk_eq, impl_areLevels_eq p (by omega), hp, hc, l09All_yes p 64 5000 (by omega) (by omega) (by omega) hb]
 simp only [bnd_s, sel_t, Bool.not_true, sel_f]
 rw [Unscanned_alike 8 (Or.inr rfl) p (by omega)]
 refine sel_c (fun _ => rfl) fun _ => sel_c (fun _ => ?_) fun _ => ?_
 ·
  obtain ⟨w, ew, w1, w2⟩ := spec_Unscanned_ev 8 (Or.inr rfl) p 5000 (by omega) (by omega) hb
  rw [ew, bnd_s, bnd_s]
  have hloop : loop (impl_LevelsBack_l4 c (w, true)) (0, (w, true).1) = loop (spec_LevelsBack_l4 c) (0, (w, true).1) := by
   have : impl_LevelsBack_l4 c (w, true) = spec_LevelsBack_l4 c := by
    funext v
    unfold impl_LevelsBack_l4 spec_LevelsBack_l4
    simp only [LargeBack_alike _ _ hq, w1, hl]
    rfl
   rw [this]
  rw [hloop]
  obtain ⟨l, el, l1, l2⟩ := map_loop (f := spec_LevelsBack_l4 c) 64 (fun x => -5000 ≤ x ∧ x ≤ 5000) (fun x => -5760000 ≤ x ∧ x ≤ 5760000) (by
   intro i l hi hll hx
   obtain ⟨d, ed, d1, d2⟩ := spec_LargeBack_ev (l.getD i 0) c.Qp hx hq
   unfold spec_LevelsBack_l4
   simp only [Int.toNat_natCast]
   rw [sel_yes (by omega), req_p (by omega), req_p (by omega), ed, bnd_s, req_p (by omega), req_p (by omega), wk (e := (i : Int) + 1) (by omega) (by omega)]
   exact ⟨d, rfl, d1, d2⟩) (by intro s; unfold spec_LevelsBack_l4; rw [sel_no (by simp)]) w (by omega) w2
  simp only [el, bnd_s]
  rw [EightBack_alike l l1 (inB_mono l2 (by omega))]
 ·
  refine req_c fun _ => bnd_c ?_ fun _ _ => rfl
  refine loop_congr (fun v => (∃ k : Nat, v.1 = (k : Int) ∧ k ≤ 4) ∧ v.2.length = 64) ?_ ?_ ⟨⟨0, rfl, by omega⟩, by simp⟩
  ·
   intro ⟨k0, s⟩ ⟨⟨k, ek, hk⟩, hs⟩
   simp only at ek hs
   subst ek
   unfold impl_LevelsBack_l36 spec_LevelsBack_l36
   simp only
   refine sel_c (fun hk4 => ?_) fun _ => rfl
   have hk4 : k < 4 := by have := of_decide_eq_true hk4; omega
   rw [wk (e := 16 * (k : Int)) (by omega) (by omega), wk (e := 16 * (k : Int) + 16) (by omega) (by omega)]
   refine req_c fun _ => ?_
   rw [show (16 * (k : Int)).toNat = 16 * k by omega, show (16 * (k : Int) + 16).toNat - 16 * k = 16 by omega]
   have hcut : ((p.drop (16 * k)).take 16).length = 16 := by rw [List.length_take, List.length_drop]; omega
   obtain ⟨a, ea, a1, a2⟩ := spec_Unscanned_ev 4 (Or.inl rfl) ((p.drop (16 * k)).take 16) 5000 (by omega) (by omega) (inB_take (inB_drop hb _) _)
   rw [Unscanned_alike 4 (Or.inl rfl) _ (by omega), ea, bnd_s, bnd_s]
   have hloop : loop (impl_LevelsBack_l41 c (a, true)) (0, (a, true).1) = loop (spec_LevelsBack_l41 c) (0, (a, true).1) := by
    have : impl_LevelsBack_l41 c (a, true) = spec_LevelsBack_l41 c := by
     funext v
     unfold impl_LevelsBack_l41 spec_LevelsBack_l41
     simp only [show ((a.length : Nat) : Int) = 16 by omega]
     refine sel_c (fun h16 => ?_) fun _ => rfl
     have := of_decide_eq_true h16
     refine req_c fun h0 => req_c fun _ => ?_
     rw [SmallBack_alike _ _ _ hq (by omega)]
    rw [this]
   rw [hloop]
   obtain ⟨l, el, l1, l2⟩ := map_loop (f := spec_LevelsBack_l41 c) 16 (fun x => -5000 ≤ x ∧ x ≤ 5000) (fun x => -10000000 ≤ x ∧ x ≤ 10000000) (by
    intro i l hi hll hx
    obtain ⟨d, ed, d1, d2⟩ := spec_SmallBack_ev (l.getD i 0) c.Qp i hx hq (by omega)
    unfold spec_LevelsBack_l41
    simp only [Int.toNat_natCast]
    rw [sel_yes (by omega), req_p (by omega), req_p (by omega), ed, bnd_s, req_p (by omega), req_p (by omega), wk (e := (i : Int) + 1) (by omega) (by omega)]
    exact ⟨d, rfl, d1, d2⟩) (by intro s; unfold spec_LevelsBack_l41; rw [sel_no (by simp)]) a (by omega) a2
   obtain ⟨b, eb, b1, b2⟩ := spec_FourBack_ev l l1 l2
   obtain ⟨q1, q2, q3⟩ := impl_quarter_eq k hk4
   simp only [el, bnd_s]
   rw [FourBack_alike l l1 l2, eb, bnd_s, bnd_s, q1, bnd_s]
   refine bnd_c ?_ fun _ _ => rfl
   have : impl_LevelsBack_l42 b (quarterL k) = spec_LevelsBack_l42 ((k : Int), s) b := by
    funext v
    unfold impl_LevelsBack_l42 spec_LevelsBack_l42
    simp only [show (((quarterL k).length : Nat) : Int) = 16 by omega]
    refine sel_c (fun h16 => ?_) fun _ => rfl
    have h16 := of_decide_eq_true h16
    by_cases h0 : 0 ≤ v.1
    ·
     obtain ⟨i, hi⟩ : ∃ i : Nat, v.1 = (i : Int) := ⟨v.1.toNat, by omega⟩
     obtain ⟨v1, v2⟩ := v
     simp only at hi h0 h16
     subst hi
     obtain ⟨r1, r2, r3⟩ := q3 i (by omega)
     have e1 : (wrapK .i64 ((wrapK .i64 ((wrapK .i64 (8 * (wrapK .i64 ((wrapK .i64 ((wrapK .i64 ((k : Int).tdiv 2)) * 4)) + (wrapK .i64 ((i : Int).tdiv 4)))))) + (wrapK .i64 (((k : Int).tmod 2) * 4)))) + ((i : Int).tmod 4))) = quarterAt k i := rfl
     simp only [Int.toNat_natCast, r1, e1]
     refine req_pc (by omega) (req_pc (by omega) (req_pc (by omega) (req_pc (by omega) ?_)))
     refine (req_pc (by omega) (req_pc (by omega) (req_pc (by omega) (req_pc (by omega) (req_pc (by omega) (req_pc (by omega) ?_)))))).symm
     rfl
    ·
     unfold req
     rw [if_neg (by omega), if_pos (by omega), if_pos (by omega), if_pos (by omega), if_pos (by omega), if_neg (by omega)]
   rw [this]
  ·
   intro ⟨k0, s⟩ v' ⟨⟨k, ek, hk⟩, hs⟩ he
   simp only at ek hs
   subst ek
   unfold spec_LevelsBack_l36 at he
   simp only at he
   rcases sel_some he with ⟨hb4, he⟩ | ⟨_, he⟩
   ·
    have hk4 : k < 4 := by have := of_decide_eq_true hb4; omega
    obtain ⟨_, he⟩ := req_some he
    obtain ⟨a, _, he⟩ := bnd_some he
    obtain ⟨l, _, he⟩ := bnd_some he
    obtain ⟨b, _, he⟩ := bnd_some he
    obtain ⟨r, hr, he⟩ := bnd_some he
    rw [wk (e := (k : Int) + 1) (by omega) (by omega)] at he
    cases he
    refine ⟨⟨k + 1, rfl, by omega⟩, ?_⟩
    refine loop_keep (f := spec_LevelsBack_l42 ((k : Int), s) b) (fun v => v.2.length = 64) (fun o => o.length = 64) ?_ ?_ hr hs
    ·
     intro v v' hv he
     unfold spec_LevelsBack_l42 at he
     rcases sel_some he with ⟨_, he⟩ | ⟨_, he⟩
     ·
      obtain ⟨_, he⟩ := req_some he
      obtain ⟨_, he⟩ := req_some he
      obtain ⟨_, he⟩ := req_some he
      obtain ⟨_, he⟩ := req_some he
      obtain ⟨_, he⟩ := req_some he
      obtain ⟨_, he⟩ := req_some he
      obtain ⟨_, he⟩ := req_some he
      obtain ⟨_, he⟩ := req_some he
      cases he
      simp only [List.length_set]; exact hv
     ·
      cases he
    ·
     intro v o hv he
     unfold spec_LevelsBack_l42 at he
     rcases sel_some he with ⟨_, he⟩ | ⟨_, he⟩
     ·
      obtain ⟨_, he⟩ := req_some he
      obtain ⟨_, he⟩ := req_some he
      obtain ⟨_, he⟩ := req_some he
      obtain ⟨_, he⟩ := req_some he
      obtain ⟨_, he⟩ := req_some he
      obtain ⟨_, he⟩ := req_some he
      obtain ⟨_, he⟩ := req_some he
      obtain ⟨_, he⟩ := req_some he
      cases he
     ·
      cases he; exact hv
   ·
    cases he
theorem loop_nat {S O : Type} {f g : Int × S → Option (Lp (Int × S) O)} (n : Nat) (I : Nat → S → Prop) (h : ∀ (i : Nat) (s : S), i ≤ n → I i s → f ((i : Int), s) = g ((i : Int), s)) (hI : ∀ (i : Nat) (s : S) (v' : Int × S), i ≤ n → I i s → g ((i : Int), s) = some (.go v') → v'.1 = ((i + 1 : Nat) : Int) ∧ i + 1 ≤ n ∧ I (i + 1) v'.2) {s0 : S} (h0 : I 0 s0) : loop f (0, s0) = loop g (0, s0) := by
 refine loop_congr (fun v => ∃ i : Nat, v.1 = (i : Int) ∧ i ≤ n ∧ I i v.2) ?_ ?_ ⟨0, rfl, by omega, h0⟩
 ·
  intro ⟨k, s⟩ ⟨i, e, hi, hs⟩
  simp only at e hs
  subst e
  exact h i s hi hs
 ·
  intro ⟨k, s⟩ v' ⟨i, e, hi, hs⟩ he
  simp only at e hs
  subst e
  obtain ⟨a, b, c⟩ := hI i s v' hi hs he
  exact ⟨i + 1, a, b, c⟩
theorem dot_alike {p : Pic} (ok : picOk p = true) (x y : Int) : impl_Pic_dot p x y = spec_DotAt p x y := by rw [impl_dot_eq ok, spec_DotAt_eq ok]
theorem isSquare_yes {p : Pic} (ok : picOk p = true) {x y : Int} (hx : x.tmod 8 = 0) (hy : y.tmod 8 = 0) (h : heldAt p x y = true) : impl_Pic_isSquare p x y = some true := impl_isSquare_eq ok x y hx hy h
theorem EdgesOf_alike {p : Pic} (ok : picOk p = true) {x y : Int} (hx : x.tmod 8 = 0) (hy : y.tmod 8 = 0) (h : heldAt p x y = true) : impl_EdgesOf p x y = spec_EdgesOf p x y := by
 unfold impl_EdgesOf spec_EdgesOf
 rw [impl_PicOk_eq, ok, isSquare_yes ok hx hy h, spec_l13Fits_yes ok hx hy h]
 have : impl_EdgesOf_l2 p x y = spec_EdgesOf_l2 p x y := by
  funext v
  unfold impl_EdgesOf_l2 spec_EdgesOf_l2
  simp only [dot_alike ok]
 simp only [bnd_s, sel_t, Bool.not_true, sel_f, this, dot_alike ok]
theorem EdgesOk_yes {e : Edges} (h : edgesP e) : impl_EdgesOk e = some true := by
 obtain ⟨h1, h2, h3, h4, h5, h6⟩ := h
 have side : ∀ l : List Int, (l.length = 0 ∨ l.length = 8) → (∀ x ∈ l, 0 ≤ x ∧ x ≤ 255) → bnd (sel (decide ((l.length : Int) > 0)) (bnd (impl_areIn l 8 0 255) fun q10 => some (!q10)) (some false)) (fun v9 => some v9) = some false := by
  intro l hl hb
  rcases hl with e | e
  ·
   rw [sel_no (by omega)]; rfl
  ·
   rw [sel_yes (by omega), impl_areIn_eq l 8 0 255 (by omega)]
   have : (l.all fun x => decide (0 ≤ x ∧ x ≤ 255)) = true := List.all_eq_true.2 fun x hx => decide_eq_true (hb x hx)
   rw [this, e]; rfl
 have go : ∀ (i : Nat) (l : List Int), i < 2 → ([e.Above, e.Left]).getD i dLInti64 = l → (l.length = 0 ∨ l.length = 8) → (∀ x ∈ l, 0 ≤ x ∧ x ≤ 255) → impl_EdgesOk_l2 e (i : Int) = some (.go ((i + 1 : Nat) : Int)) := by
  intro i l hi hg hl hb
  unfold impl_EdgesOk_l2
  simp only [Int.toNat_natCast, hg]
  have hs := side l hl hb
  rw [sel_yes (by simp only [List.length_cons, List.length_nil]; omega), req_p (by simp only [List.length_cons, List.length_nil]; omega), req_p (by simp only [List.length_cons, List.length_nil]; omega)]
  obtain ⟨a, ea, hs⟩ := bnd_some hs
  injection hs with hs
  subst hs
  rw [ea, bnd_s, sel_f, wk (by omega) (by omega)]
  rfl
 unfold impl_EdgesOk
 have : loop (impl_EdgesOk_l2 e) 0 = some (.out ()) := by
  refine lgo (go 0 e.Above (by omega) rfl h1 h3) (lgo (go 1 e.Left (by omega) rfl h2 h4) (ldone ?_))
  unfold impl_EdgesOk_l2
  rw [sel_no (by simp)]
 rw [this, bnd_s, impl_within_eq, bnd_s, decide_eq_true ⟨h5, h6⟩]
def sumI (l : List Int) : Nat → Int
 | 0 => 0
 | n + 1 => sumI l n + l.getD n 0
theorem sumI_range {l : List Int} (h : ∀ x ∈ l, 0 ≤ x ∧ x ≤ 255) : ∀ n : Nat, n ≤ l.length → 0 ≤ sumI l n ∧ sumI l n ≤ 255 * n
 | 0, _ => by simp [sumI]
 | n + 1, hn => by
  have a := sumI_range h n (by omega)
  have b := h (l.getD n 0) (by rw [getD_at l n (by omega)]; exact List.getElem_mem _)
  rw [sumI]; omega
theorem sum_loop {f : Int × Int → Option (Lp (Int × Int) Int)} {l : List Int} (hl : l.length ≤ 64) (h : ∀ x ∈ l, 0 ≤ x ∧ x ≤ 255) (hf : ∀ v, f v = sel (decide (v.2 < (l.length : Int))) (req (0 ≤ v.2 ∧ v.2 < l.length) <| some (.go (wrapK .i64 (v.1 + (l.getD v.2.toNat 0)), wrapK .i64 (v.2 + 1)))) (some (.done v.1))) (a : Int) (ha : 0 ≤ a ∧ a ≤ 100000) : loop f (a, 0) = some (a + sumI l l.length) := by
 obtain ⟨o, e, ho⟩ := acc_loop (f := f) l.length (fun i s => s = a + sumI l i) (by
  intro i s hi g
  have r := sumI_range h i (by omega)
  have b := h (l.getD i 0) (by rw [getD_at l i (by omega)]; exact List.getElem_mem _)
  rw [hf]
  simp only [Int.toNat_natCast]
  rw [sel_yes (by omega), req_p (by omega), wk (e := s + l.getD i 0) (by omega) (by omega), wk (e := (i : Int) + 1) (by omega) (by omega)]
  exact ⟨_, rfl, by rw [sumI]; omega⟩) (by intro s; rw [hf, sel_no (by simp)]) a (by simp [sumI])
 rw [e, ho]
theorem impl_sumOf_is {l : List Int} (hl : l.length ≤ 64) (h : ∀ x ∈ l, 0 ≤ x ∧ x ≤ 255) : impl_sumOf l = some (sumI l l.length) := by
 unfold impl_sumOf
 rw [sum_loop (f := impl_sumOf_l2 l) hl h (fun _ => rfl) 0 (by omega), bnd_s, Int.zero_add]
theorem mid_alike {e : Edges} (h : edgesP e) : (sel (decide ((wrapK .i64 ((e.Above.length : Int) + (e.Left.length : Int))) > 0)) (bnd (impl_sumOf e.Above) fun q5 => bnd (impl_sumOf e.Left) fun q6 => req ((2 : Int) ≠ 0) <| req ((wrapK .i64 ((e.Above.length : Int) + (e.Left.length : Int))) ≠ 0) <|
  some (wrapK .i64 ((wrapK .i64 ((wrapK .i64 (q5 + q6)) + (wrapK .i64 ((wrapK .i64 ((e.Above.length : Int) + (e.Left.length : Int))).tdiv 2)))).tdiv (wrapK .i64 ((e.Above.length : Int) + (e.Left.length : Int)))))) (some 128)) = spec_l13Mid e := by
 obtain ⟨h1, h2, h3, h4, h5, h6⟩ := h
 unfold spec_l13Mid
 have r1 := sumI_range h3 e.Above.length (Nat.le_refl _)
 have r2 := sumI_range h4 e.Left.length (Nat.le_refl _)
 rw [wk (e := (e.Above.length : Int) + (e.Left.length : Int)) (by omega) (by omega)]
 by_cases hz : (e.Above.length : Int) + (e.Left.length : Int) = 0
 ·
  rw [sel_no (by omega), sel_pos (by simpa using hz)]
 ·
  rw [sel_yes (by omega), sel_neg (by simpa using hz), impl_sumOf_is (by omega) h3, bnd_s, impl_sumOf_is (by omega) h4, bnd_s, req_p (by omega), req_p hz, req_p (by omega), tdiv_pos (a := (e.Above.length : Int) + (e.Left.length : Int)) (by omega), wk (e := ((e.Above.length : Int) + (e.Left.length : Int)) / 2) (by omega) (by omega),
   sum_loop (f := spec_l13Mid_l2 e) (by omega) h3 (fun _ => rfl) _ (by omega), bnd_s, sum_loop (f := spec_l13Mid_l4 e) (by omega) h4 (fun _ => rfl) _ (by omega), bnd_s, req_p hz, wk (e := sumI e.Above e.Above.length + sumI e.Left e.Left.length) (by omega) (by omega), wk (e := sumI e.Above e.Above.length + sumI e.Left e.Left.length + ((e.Above.length : Int) + (e.Left.length : Int)) / 2) (by omega) (by omega)]
  congr 3; omega
theorem orGrey_eq (l : List Int) (hl : l.length = 0 ∨ l.length = 8) : ∃ g, impl_orGrey l = some g ∧ g.length = 8 ∧ ∀ k : Nat, k < 8 → spec_l13Filled l k = some (g.getD k 0) := by
 unfold impl_orGrey
 rcases hl with e | e
 ·
  refine ⟨_, sel_pos (by rw [e]; rfl), rfl, fun k hk => ?_⟩
  unfold spec_l13Filled
  rw [sel_pos (by rw [e]; rfl)]
  congr 1
  obtain rfl | rfl | rfl | rfl | rfl | rfl | rfl | rfl : k = 0 ∨ k = 1 ∨ k = 2 ∨ k = 3 ∨ k = 4 ∨ k = 5 ∨ k = 6 ∨ k = 7 := by omega
  all_goals rfl
 ·
  refine ⟨l, sel_neg (by rw [e]; rfl), e, fun k hk => ?_⟩
  unfold spec_l13Filled
  rw [sel_neg (by rw [e]; rfl), req_p (by omega), Int.toNat_natCast]
theorem brought_alike (n a b : Int) : impl_Brought n a b = spec_Brought n a b := by rw [impl_Brought_eq, spec_Brought_eq]
def guessAt (m mid v : Int) (A B : List Int) (i : Nat) : Int := sel (m == 0) mid (sel (m == 1) (A.getD (i % 8) 0) (sel (m == 2) (B.getD (i / 8) 0) (brought (wrapK .i64 (wrapK .i64 (B.getD (i / 8) 0 + A.getD (i % 8) 0) - v)) 0 255)))
theorem grid_loops {f1 : Int × List Int → Option (Lp (Int × List Int) (List Int))} {f2 : Int × List Int → Int × List Int → Option (Lp (Int × List Int) (List Int))} (g : Nat → Int)
  (h1 : ∀ v, f1 v = sel (decide (v.1 < 8)) (bnd (loop (f2 v) (0, v.2)) fun w => some (.go (wrapK .i64 (v.1 + 1), w))) (some (.done v.2)))
  (h2 : ∀ (r c : Nat) (a s : List Int), r < 8 → c < 8 → s.length = 8 * r + c → f2 ((r : Int), a) ((c : Int), s) = some (.go (((c + 1 : Nat) : Int), s ++ [g (8 * r + c)])))
  (h3 : ∀ (r : Nat) (a s : List Int), f2 ((r : Int), a) (8, s) = some (.done s)) : loop f1 (0, []) = some ((List.range 64).map g) := by
 obtain ⟨o, e, ho⟩ := st_loop (f := f1) 8 (fun r s => s = (List.range (8 * r)).map g) (by
  intro r s hr hs
  obtain ⟨q, eq, hq⟩ := st_loop2 (f := f2 ((r : Int), s)) 8 (fun c s' => s' = (List.range (8 * r + c)).map g) (by
   intro c s' hc hs'
   exact ⟨_, h2 r c s s' hr hc (by rw [hs']; simp), by rw [hs', show 8 * r + (c + 1) = (8 * r + c) + 1 by omega, List.range_succ, List.map_append]; rfl⟩) (fun z _ => h3 r s z) s hs
  rw [h1]
  refine ⟨q, ?_, by rw [hq, show 8 * (r + 1) = 8 * r + 8 by omega]⟩
  simp only
  rw [sel_yes (by omega), eq, bnd_s, wk (by omega) (by omega)]
  rfl) (by intro s; rw [h1, sel_no (by simp)]) [] rfl
 rw [e, ho]
theorem GuessOf_both (m : Int) (hm0 : 0 ≤ m ∧ m ≤ 3) {e : Edges} (h : edgesP e) : ∃ g, impl_GuessOf m e = some g ∧ spec_GuessOf m e = some g := by
 have hm : maxLen = 9223372036854775807 := rfl
 obtain ⟨mid, em, m1, m2⟩ := spec_l13Mid_ev h
 obtain ⟨A, eA, hA, fA⟩ := orGrey_eq e.Above h.1
 obtain ⟨B, eB, hB, fB⟩ := orGrey_eq e.Left h.2.1
 obtain ⟨v, ev⟩ : ∃ v, sel (decide (e.Corner < 0)) (some (128 : Int)) (some e.Corner) = some v := by rw [sel_ss]; exact ⟨_, rfl⟩
 refine ⟨(List.range 64).map (guessAt m mid v A B), ?_, ?_⟩
 ·
  unfold impl_GuessOf
  rw [EdgesOk_yes h, bnd_s, sel_t, impl_within_eq, bnd_s, decide_eq_true hm0, Bool.not_true, bnd_s, sel_f, mid_alike h, em, bnd_s, eA, bnd_s, eB, bnd_s, ev, bnd_s, grid_loops (f1 := impl_GuessOf_l12 m mid A B v) (f2 := impl_GuessOf_l14 m mid A B v) (guessAt m mid v A B) (fun _ => rfl) ?_ ?_, bnd_s]
  ·
   intro r c a s hr hc hs
   unfold impl_GuessOf_l14 guessAt
   simp only [Int.toNat_natCast, impl_Brought_eq, bnd_s]
   rw [sel_yes (by omega), wk (e := (c : Int) + 1) (by omega) (by omega), show (8 * r + c) % 8 = c by omega, show (8 * r + c) / 8 = r by omega]
   cases (m == 0) with
   | true => rw [sel_t, req_p (by simp only [List.length_singleton]; omega), bnd_s]; rfl
   | false =>
    rw [sel_f]
    cases (m == 1) with
    | true => rw [sel_t, req_p (by omega), req_p (by simp only [List.length_singleton]; omega), bnd_s]; rfl
    | false =>
     rw [sel_f]
     cases (m == 2) with
     | true => rw [sel_t, req_p (by omega), req_p (by simp only [List.length_singleton]; omega), bnd_s]; rfl
     | false => rw [sel_f, req_p (by omega), req_p (by omega), req_p (by simp only [List.length_singleton]; omega), bnd_s]; rfl
  ·
   intro r a s
   unfold impl_GuessOf_l14
   rw [sel_no (by simp)]
 ·
  unfold spec_GuessOf
  rw [spec_EdgesOk_yes h, bnd_s, sel_t, spec_l01In_eq, bnd_s, decide_eq_true hm0, Bool.not_true, bnd_s, sel_f, ev, bnd_s]
  obtain ⟨o, eo, ho⟩ := st_loop (f := spec_GuessOf_l2 m e v) 64 (fun i s => s = (List.range i).map (guessAt m mid v A B)) (by
   intro i s hi hs
   have hlen : s.length = i := by rw [hs]; simp
   refine ⟨s ++ [guessAt m mid v A B i], ?_, by rw [hs, List.range_succ, List.map_append]; rfl⟩
   unfold spec_GuessOf_l2 guessAt
   simp only
   rw [sel_yes (by omega), req_p (by omega), tmod_pos (by omega), show (i : Int) % 8 = ((i % 8 : Nat) : Int) by omega, fA _ (by omega), bnd_s, req_p (by omega), tdiv_pos (by omega), wk (e := (i : Int) / 8) (by omega) (by omega), show (i : Int) / 8 = ((i / 8 : Nat) : Int) by omega, fB _ (by omega), bnd_s, wk (e := (i : Int) + 1) (by omega) (by omega), em]
   cases (m == 0) with
   | true => rw [sel_t, bnd_s, req_p (by simp only [List.length_singleton]; omega), bnd_s]; rfl
   | false =>
    rw [sel_f]
    cases (m == 1) with
    | true => rw [sel_t, req_p (by simp only [List.length_singleton]; omega), bnd_s]; rfl
    | false =>
     rw [sel_f]
     cases (m == 2) with
     | true => rw [sel_t, req_p (by simp only [List.length_singleton]; omega), bnd_s]; rfl
     | false => rw [sel_f, spec_Brought_eq, bnd_s, req_p (by simp only [List.length_singleton]; omega), bnd_s]; rfl) (by intro s; unfold spec_GuessOf_l2; rw [sel_no (by simp)]) [] rfl
  rw [eo, bnd_s, ho]
theorem GuessOf_alike (m : Int) (hm0 : 0 ≤ m ∧ m ≤ 3) {e : Edges} (h : edgesP e) : impl_GuessOf m e = spec_GuessOf m e := by
 obtain ⟨g, h1, h2⟩ := GuessOf_both m hm0 h
 rw [h1, h2]
theorem Joined_alike (g b : List Int) (hg : dots64 g = true) (hl : b.length = 64) (hb : inB 10000000 b) : impl_Joined g b = spec_Joined g b := by
 obtain ⟨g1, g2⟩ := dots64_at hg
 unfold impl_Joined spec_Joined
 rw [spec_l13Dots_yes g hg, impl_areDots_eq g (by omega), hg, areIn_yes b 64 10000000 (by omega) (by omega) hb, l09All_yes b 64 10000000 (by omega) (by omega) (by omega) hb]
 have : impl_Joined_l2 g b = spec_Joined_l2 g b := by
  funext v
  unfold impl_Joined_l2 spec_Joined_l2
  simp only [brought_alike, show ((g.length : Nat) : Int) = 64 by omega]
 simp only [bnd_s, sel_t, Bool.not_true, sel_f, this]
theorem sqOk_zero {s : Square} (h : sqOk s = true) (h1 : s.Kind = 0) : s.Dx = 0 ∧ s.Dy = 0 := by
 unfold sqOk at h
 rw [h1] at h
 simp at h
 exact ⟨h.2.1, h.2.2.1⟩
theorem sqOk_dxy {s : Square} (h : sqOk s = true) : (-16 ≤ s.Dx ∧ s.Dx ≤ 16) ∧ (-16 ≤ s.Dy ∧ s.Dy ≤ 16) := by
 have hk := sqOk_kind h
 obtain h1 | h1 | h1 : s.Kind = 0 ∨ s.Kind = 1 ∨ s.Kind = 2 := by omega
 ·
  obtain ⟨a, b⟩ := sqOk_zero h h1; omega
 ·
  obtain ⟨a, b, _⟩ := sqOk_one h h1; exact ⟨a, b⟩
 ·
  unfold sqOk at h
  rw [h1] at h
  simp at h
  omega
theorem impl_let_eq (s : Square) (c : Cond) : impl_Square_let s c = some (sqLet s c) := by
 unfold impl_Square_let sqLet
 cases c.Key <;> rfl
structure SdIn (now ref : Pic) (l t x y : Int) (c : Cond) (q : Square) : Prop where
 ok : picOk now = true
 hx : x.tmod 8 = 0
 hy : y.tmod 8 = 0
 h0 : heldAt now x y = true
 hl : 0 ≤ l ∧ l ≤ 256
 ht : 0 ≤ t ∧ t ≤ 256
 hc : condOk c = true
 hs : q.Levels.length ≤ 1048576
theorem SquareDots_no {now ref : Pic} {l t x y : Int} {c : Cond} {q : Square} (h : SdIn now ref l t x y c q) (hq : (sqOk q && sqLet q c) = false) : impl_SquareDots now ref l t c x y q = some ([], false) := by
 unfold impl_SquareDots
 rw [impl_PicOk_eq, bnd_s, h.ok, sel_t, isSquare_yes h.ok h.hx h.hy h.h0, bnd_s, sel_t, impl_within_eq, bnd_s, decide_eq_true h.hl, sel_t, impl_within_eq, bnd_s, decide_eq_true h.ht, sel_t, impl_SquareOk_eq q (by have := h.hs; omega), bnd_s, impl_CondOk_eq, bnd_s, h.hc, sel_t, impl_let_eq, bnd_s]
 cases h1 : sqOk q with
 | false => rfl
 | true =>
  rw [h1, Bool.true_and] at hq
  rw [hq]; rfl
theorem SquareDots_both {now ref : Pic} {l t x y : Int} {c : Cond} {q : Square} (h : SdIn now ref l t x y c q) (hq : sqOk q = true) (hL : sqLet q c = true) (hr : c.Key = false → picOk ref = true) : ∃ d, impl_SquareDots now ref l t c x y q = some (d, true) ∧ spec_SquareDots now ref l t c x y q = some (d, true) ∧ dots64 d = true := by
 obtain ⟨ok, hx, hy, h0, hl, ht, hc, hs⟩ := h
 obtain ⟨k1, k2, k3⟩ := picOk_parts ok
 have h0' := h0
 unfold heldAt at h0'
 rw [decide_eq_true_eq] at h0'
 have dxy := sqOk_dxy hq
 unfold spec_SquareDots impl_SquareDots
 rw [spec_l13Fits_yes ok hx hy h0, bnd_s, sel_t, spec_l01In_eq, bnd_s, decide_eq_true hl, sel_t, spec_l01In_eq, bnd_s, decide_eq_true ht, sel_t, spec_SquareOk_eq, bnd_s, hq, sel_t, spec_CondOk_eq, bnd_s, hc, Bool.not_true, bnd_s, sel_f]
 rw [impl_PicOk_eq, bnd_s, ok, sel_t, isSquare_yes ok hx hy h0, bnd_s, sel_t, impl_within_eq, bnd_s, decide_eq_true hl, sel_t, impl_within_eq, bnd_s, decide_eq_true ht, sel_t, impl_SquareOk_eq q (by omega), bnd_s, hq, sel_t, impl_CondOk_eq, bnd_s, hc, sel_t, impl_let_eq, bnd_s, hL, sel_t]
 by_cases h2 : q.Kind = 2
 ·
  obtain ⟨hm, hlv⟩ := sqOk_two hq h2
  obtain ⟨e, ee, he⟩ := spec_EdgesOf_ev ok hx hy h0
  obtain ⟨b, eb, b1, b2⟩ := spec_LevelsBack_ev q.Levels c hc hlv
  obtain ⟨g, eg, hg⟩ := spec_GuessOf_ev q.Mode hm he
  obtain ⟨j, ej, hj⟩ := spec_Joined_ev g b hg b1 b2
  refine ⟨j, ?_, ?_, hj⟩
  ·
   rw [sel_neg (b := q.Kind != 2) (by simpa using h2), bnd_s, sel_f, sel_neg (by rw [h2]; rfl), LevelsBack_alike q.Levels c hc hlv, eb, bnd_s, sel_neg (by rw [h2]; rfl), EdgesOf_alike ok hx hy h0, ee, bnd_s, GuessOf_alike q.Mode hm he, eg, bnd_s, Joined_alike g b hg b1 b2, ej, bnd_s]
  ·
   rw [sel_pos (by simpa using h2), ee, bnd_s, eb, bnd_s, eg, bnd_s, ej, bnd_s]
 ·
  have hK : c.Key = false := by
   unfold sqLet at hL
   cases hk : c.Key with
   | false => rfl
   | true => rw [hk] at hL; simp at hL; exact absurd hL h2
  have rok := hr hK
  rw [sel_pos (b := q.Kind != 2) (by simpa using h2), impl_PicOk_eq, bnd_s, rok, Bool.not_true, bnd_s, sel_f]
  rw [sel_neg (b := q.Kind == 2) (by simpa using h2), hK, sel_f, spec_PicOk_eq, bnd_s, rok, Bool.not_true, bnd_s, sel_f]
  rw [wk (e := l + x) (by omega) (by omega), wk (e := l + x + q.Dx) (by omega) (by omega), wk (e := t + y) (by omega) (by omega), wk (e := t + y + q.Dy) (by omega) (by omega), spec_BlockOf_eq rok _ _ (by omega) (by omega), bnd_s, impl_block_eq rok _ _ (by omega) (by omega), bnd_s, impl_block_eq rok _ _ (by omega) (by omega)]
  by_cases h3 : q.Kind = 0
  ·
   obtain ⟨z1, z2⟩ := sqOk_zero hq h3
   rw [sel_pos (b := q.Kind == 0) (by simpa using h3), sel_pos (b := q.Kind == 0) (by simpa using h3), z1, z2, Int.add_zero, Int.add_zero]
   exact ⟨_, rfl, rfl, blkL_dots _ _ _⟩
  ·
   have h1 : q.Kind = 1 := by have := sqOk_kind hq; omega
   obtain ⟨_, _, hlv⟩ := sqOk_one hq h1
   obtain ⟨b, eb, b1, b2⟩ := spec_LevelsBack_ev q.Levels c hc hlv
   obtain ⟨j, ej, hj⟩ := spec_Joined_ev _ b (blkL_dots ref (l + x + q.Dx) (t + y + q.Dy)) b1 b2
   rw [sel_neg (b := q.Kind == 0) (by simpa using h3), sel_neg (b := q.Kind == 0) (by simpa using h3), LevelsBack_alike q.Levels c hc hlv, eb, bnd_s, bnd_s, sel_pos (b := q.Kind == 1) (by simpa using h1), bnd_s, Joined_alike _ b (blkL_dots _ _ _) b1 b2, ej, bnd_s]
   exact ⟨_, rfl, rfl, hj⟩
theorem req_swap {β : Type} {a b c : Prop} [Decidable a] [Decidable b] [Decidable c] (hb : b) (hc : c) (k : Option β) : req a (req b (req c k)) = req b (req c (req a k)) := by
 rw [req_p hb, req_p hc, req_p hb, req_p hc]
theorem dots_len {p : Pic} (ok : picOk p = true) : p.Dots.size ≤ 65536 := by
 obtain ⟨k1, k2, k3⟩ := picOk_parts ok
 have := area_small k1 k2
 omega
theorem put_alike {p : Pic} {x y : Int} {d : List Int} (hd : dots64 d = true) (hp : p.Dots.size ≤ maxLen) : impl_put p x y d = spec_l16Put p x y d := by
 obtain ⟨d1, d2⟩ := dots64_at hd
 unfold impl_put spec_l16Put impl_dots
 rw [req_p hp, bnd_s, req_p hp]
 have : impl_put_l2 p x y d = spec_l16Put_l2 p x y d := by
  funext v
  unfold impl_put_l2 spec_l16Put_l2
  simp only [show ((d.length : Nat) : Int) = 64 by omega]
  exact sel_c (fun _ => req_swap (by omega) (by omega) _) fun _ => rfl
 rw [this]
theorem map_const (n : Nat) (x : Int) : ((List.range n).map fun _ => x) = List.replicate n x := by
 apply List.ext_getElem
 ·
  simp
 ·
  intro i h1 h2; simp
theorem impl_Grey_eq (w h : Int) (hw : 1 ≤ w ∧ w ≤ 256) (hh : 1 ≤ h ∧ h ≤ 256) : impl_Grey w h = some ⟨w, h, strOfNums (List.replicate (w * h).toNat 128)⟩ := by
 have ar := area_small hw hh
 unfold impl_Grey
 rw [impl_within_eq, bnd_s, decide_eq_true hw, sel_t, impl_within_eq, bnd_s, decide_eq_true hh, Bool.not_true, bnd_s, sel_f, wk (e := w * h) (by omega) (by omega), req_p (by omega)]
 rw [place_loop (f := impl_Grey_l2 w h) (w * h).toNat (fun _ => 128) (List.replicate (w * h).toNat 0) (by simp) ?_ ?_, bnd_s, map_const]
 ·
  intro i s hi hs _
  unfold impl_Grey_l2
  simp only [List.length_replicate, Int.toNat_natCast]
  rw [wk (e := w * h) (by omega) (by omega), sel_yes (by omega), req_p (by omega), req_p (by omega), wk (by omega) (by omega)]
  rfl
 ·
  intro s hs
  unfold impl_Grey_l2
  simp only [List.length_replicate]
  rw [wk (e := w * h) (by omega) (by omega), sel_no (by omega)]
theorem spec_Grey_eq (w h : Int) (hw : 1 ≤ w ∧ w ≤ 256) (hh : 1 ≤ h ∧ h ≤ 256) : spec_Grey w h = some ⟨w, h, strOfNums (List.replicate (w * h).toNat 128)⟩ := by
 have ar := area_small hw hh
 unfold spec_Grey
 rw [spec_l01In_eq, bnd_s, decide_eq_true hw, sel_t, spec_l01In_eq, bnd_s, decide_eq_true hh, Bool.not_true, bnd_s, sel_f, wk (e := w * h) (by omega) (by omega), show w * h = (((w * h).toNat : Nat) : Int) by omega, spec_l01Long_eq _ _ (by omega), bnd_s, Int.toNat_natCast]
def holdsB (p : Pic) (r : Rect) : Bool := decide (1 ≤ r.Wide ∧ r.Wide ≤ p.Wide) && (decide (1 ≤ r.High ∧ r.High ≤ p.High) && (decide (0 ≤ r.Left ∧ r.Left ≤ p.Wide - r.Wide) && decide (0 ≤ r.Top ∧ r.Top ≤ p.High - r.High)))
theorem impl_holds_eq {p : Pic} (ok : picOk p = true) (r : Rect) : impl_Pic_holds p r = some (holdsB p r) := by
 obtain ⟨k1, k2, k3⟩ := picOk_parts ok
 unfold impl_Pic_holds holdsB
 rw [impl_within_eq, impl_within_eq, bnd_s, bnd_s]
 by_cases h1 : 1 ≤ r.Wide ∧ r.Wide ≤ p.Wide
 ·
  rw [decide_eq_true h1, sel_t, Bool.true_and]
  by_cases h2 : 1 ≤ r.High ∧ r.High ≤ p.High
  ·
   rw [decide_eq_true h2, sel_t, Bool.true_and, wk (e := p.Wide - r.Wide) (by omega) (by omega), wk (e := p.High - r.High) (by omega) (by omega), impl_within_eq, impl_within_eq, bnd_s, bnd_s, sel_and, bnd_s]
  ·
   rw [decide_eq_false h2, sel_f, Bool.false_and]; rfl
 ·
  rw [decide_eq_false h1, sel_f, Bool.false_and]; rfl
theorem spec_l12Within_eq (p : Pic) (r : Rect) : spec_l12Within p r.Left r.Top r.Wide r.High = some (picOk p && holdsB p r) := by
 unfold spec_l12Within holdsB
 rw [spec_PicOk_eq, bnd_s]
 cases ok : picOk p with
 | false => rfl
 | true =>
  obtain ⟨k1, k2, k3⟩ := picOk_parts ok
  rw [sel_t, spec_l01In_eq, spec_l01In_eq, bnd_s, bnd_s]
  by_cases h1 : 1 ≤ r.Wide ∧ r.Wide ≤ p.Wide
  ·
   rw [decide_eq_true h1, sel_t, Bool.true_and, Bool.true_and]
   by_cases h2 : 1 ≤ r.High ∧ r.High ≤ p.High
   ·
    rw [decide_eq_true h2, sel_t, Bool.true_and, wk (e := p.Wide - r.Wide) (by omega) (by omega), wk (e := p.High - r.High) (by omega) (by omega), spec_l01In_eq, spec_l01In_eq, bnd_s, bnd_s, sel_and, bnd_s]
   ·
    rw [decide_eq_false h2, sel_f, Bool.false_and]; rfl
  ·
   rw [decide_eq_false h1, sel_f, Bool.false_and]; rfl
theorem holdsB_parts {p : Pic} {r : Rect} (h : holdsB p r = true) : (1 ≤ r.Wide ∧ r.Wide ≤ p.Wide) ∧ (1 ≤ r.High ∧ r.High ≤ p.High) ∧ (0 ≤ r.Left ∧ r.Left ≤ p.Wide - r.Wide) ∧ (0 ≤ r.Top ∧ r.Top ≤ p.High - r.High) := by
 unfold holdsB at h
 simp only [Bool.and_eq_true, decide_eq_true_eq] at h
 exact h
def cutRows (p : Pic) (r : Rect) : Nat → List Int
 | 0 => []
 | n + 1 => cutRows p r n ++ numsOf (p.Dots.extract ((r.Top + n) * p.Wide + r.Left).toNat ((r.Top + n) * p.Wide + r.Left + r.Wide).toNat)
theorem cut_row {p : Pic} {r : Rect} (ok : picOk p = true) (h : holdsB p r = true) (n : Nat) (hn : (n : Int) < r.High) : 0 ≤ (r.Top + n) * p.Wide ∧ (r.Top + n) * p.Wide + r.Left + r.Wide ≤ p.Dots.size ∧ (r.Top + n) * p.Wide ≤ 65536 ∧ (numsOf (p.Dots.extract ((r.Top + n) * p.Wide + r.Left).toNat ((r.Top + n) * p.Wide + r.Left + r.Wide).toNat)).length = r.Wide.toNat := by
 obtain ⟨k1, k2, k3⟩ := picOk_parts ok
 obtain ⟨a1, a2, a3, a4⟩ := holdsB_parts h
 have ar := area_small k1 k2
 have b1 : 0 ≤ (r.Top + n) * p.Wide := Int.mul_nonneg (by omega) (by omega)
 have b2 : (r.Top + n) * p.Wide ≤ (p.High - 1) * p.Wide := Int.mul_le_mul_of_nonneg_right (by omega) (by omega)
 have b3 : (p.High - 1) * p.Wide = p.Wide * p.High - p.Wide := by rw [Int.sub_mul, Int.one_mul, Int.mul_comm]
 refine ⟨b1, by omega, by omega, ?_⟩
 rw [numsOf_length, ByteArray.size_extract]
 omega
theorem cutRows_len {p : Pic} {r : Rect} (ok : picOk p = true) (h : holdsB p r = true) : ∀ n : Nat, (n : Int) ≤ r.High → ((cutRows p r n).length : Int) = n * r.Wide
 | 0, _ => by simp [cutRows]
 | n + 1, hn => by
  have a := holdsB_parts h
  have b := cut_row ok h n (by omega)
  rw [cutRows, List.length_append, Int.natCast_add, cutRows_len ok h n (by omega), b.2.2.2, Int.natCast_add, Int.add_mul]
  simp only [Int.natCast_one, Int.one_mul]
  omega
theorem cut_loop {p : Pic} {r : Rect} {f : Int × List Int → Option (Lp (Int × List Int) (List Int))} (ok : picOk p = true) (h : holdsB p r = true) (hf : f = spec_CutOf_l2 p r) : loop f (r.Top, []) = some (cutRows p r r.High.toNat) := by
 have hm : maxLen = 9223372036854775807 := rfl
 obtain ⟨k1, k2, k3⟩ := picOk_parts ok
 obtain ⟨a1, a2, a3, a4⟩ := holdsB_parts h
 subst hf
 have key : ∀ n : Nat, n ≤ r.High.toNat → loop (spec_CutOf_l2 p r) (r.Top + n, cutRows p r n) = some (cutRows p r r.High.toNat) := by
  refine down_to _ ?_ ?_
  ·
   refine ldone ?_
   unfold spec_CutOf_l2
   rw [wk (e := r.Top + r.High) (by omega) (by omega), sel_no (by simp only; omega)]
  ·
   intro n hn ih
   refine lgo (y := (r.Top + ((n + 1 : Nat) : Int), cutRows p r (n + 1))) ?_ ih
   obtain ⟨b1, b2, b3, b4⟩ := cut_row ok h n (by omega)
   have cl := cutRows_len ok h n (by omega)
   have cw : (n : Int) * r.Wide ≤ 256 * r.Wide := Int.mul_le_mul_of_nonneg_right (by omega) (by omega)
   unfold spec_CutOf_l2
   simp only
   rw [wk (e := r.Top + r.High) (by omega) (by omega), sel_yes (by omega), wk (e := (r.Top + n) * p.Wide) (by omega) (by omega), wk (e := (r.Top + n) * p.Wide + r.Left) (by omega) (by omega), wk (e := (r.Top + n) * p.Wide + r.Left + r.Wide) (by omega) (by omega), req_p (by omega), req_p (by rw [b4]; omega), wk (e := r.Top + n + 1) (by omega) (by omega), show r.Top + ((n + 1 : Nat) : Int) = r.Top + n + 1 by omega]
   rfl
 have := key 0 (by omega)
 simpa [cutRows] using this
def cutP (p : Pic) (r : Rect) : Pic := ⟨r.Wide, r.High, strOfNums (cutRows p r r.High.toNat)⟩
theorem cutP_ok {p : Pic} {r : Rect} (ok : picOk p = true) (h : holdsB p r = true) : picOk (cutP p r) = true := by
 obtain ⟨k1, k2, k3⟩ := picOk_parts ok
 obtain ⟨a1, a2, a3, a4⟩ := holdsB_parts h
 refine picOk_of (by show 1 ≤ r.Wide ∧ r.Wide ≤ 256; omega) (by show 1 ≤ r.High ∧ r.High ≤ 256; omega) ?_
 show ((strOfNums _).size : Int) = r.Wide * r.High
 rw [strOfNums_size, cutRows_len ok h _ (by omega), Int.mul_comm]
 congr 1; omega
theorem spec_CutOf_eq {p : Pic} {r : Rect} (ok : picOk p = true) (h : holdsB p r = true) : spec_CutOf p r = some (cutP p r, true) := by
 unfold spec_CutOf
 rw [spec_l12Within_eq, ok, h, bnd_s]
 simp only [Bool.true_and, Bool.not_true, sel_f]
 rw [cut_loop ok h rfl, bnd_s]
 rfl
theorem impl_CutOf_eq {p : Pic} {r : Rect} (ok : picOk p = true) (h : holdsB p r = true) : impl_CutOf p r = some (cutP p r, true) := by
 obtain ⟨k1, k2, k3⟩ := picOk_parts ok
 obtain ⟨a1, a2, a3, a4⟩ := holdsB_parts h
 have ar := area_small (w := r.Wide) (h := r.High) (by omega) (by omega)
 unfold impl_CutOf
 rw [impl_PicOk_eq, bnd_s, ok, sel_t, impl_holds_eq ok, bnd_s, h, Bool.not_true, bnd_s, sel_f, wk (e := r.Wide * r.High) (by omega) (by omega), req_p (by omega)]
 have := cut_loop (f := impl_CutOf_l2 p r) ok h rfl
 rw [show List.replicate (0 : Int).toNat (0 : Int) = [] from rfl, this, bnd_s]
 rfl
def sqAllB (l : List Square) (c : Cond) : Bool := l.all fun q => sqOk q && sqLet q c
theorem impl_isTile_eq (n : Int) : impl_isTile n = some (sideB n) := by
 unfold impl_isTile sideB
 rw [req_p (by omega), impl_within_eq, bnd_s, sel_and, bnd_s, beq_dec]
theorem spec_l16Ok_eq (l : List Square) (c : Cond) (hl : l.length ≤ 1048576) : spec_l16Ok l c = some (condOk c && (decide (1 ≤ l.length ∧ l.length ≤ 64) && sqAllB l c)) := by
 unfold spec_l16Ok
 rw [spec_CondOk_eq, bnd_s]
 cases hc : condOk c with
 | false => rfl
 | true =>
  rw [sel_t, spec_l01In_eq, bnd_s, bnd_s]
  by_cases h64 : 1 ≤ l.length ∧ l.length ≤ 64
  ·
   rw [decide_eq_true (show 1 ≤ (l.length : Int) ∧ (l.length : Int) ≤ 64 by omega), decide_eq_true h64, Bool.not_true, sel_f, Bool.true_and, Bool.true_and]
   have key : ∀ (r a : List Square), l = a ++ r → loop (spec_l16Ok_l2 l c) (a.length : Int) = some (if sqAllB r c = true then .out () else .ret false) := by
    intro r
    induction r with
    | nil =>
     intro a ha
     rw [List.append_nil] at ha
     exact ldone (by unfold spec_l16Ok_l2; rw [sel_no (by rw [ha]; omega)]; rfl)
    | cons s r ih =>
     intro a ha
     have hlen : a.length < l.length := by rw [ha]; simp
     have hx : l.getD a.length dSquare = s := by rw [ha]; exact getD_mid a s _ r
     have hn := ih (a ++ [s]) (by rw [ha]; simp)
     rw [List.length_append, List.length_singleton] at hn
     have hstep : spec_l16Ok_l2 l c (a.length : Int) = sel (!(sqOk s && sqLet s c)) (some (.done (.ret false))) (some (.go ((a.length + 1 : Nat) : Int))) := by
      unfold spec_l16Ok_l2
      simp only [Int.toNat_natCast, hx]
      rw [sel_yes (by omega), req_p (by omega), show (⟨s.Kind, s.Mode, s.Dx, s.Dy, s.Levels⟩ : Square) = s from rfl, spec_SquareOk_eq, bnd_s, req_p (by omega), wk (by omega) (by omega)]
      unfold sqLet
      cases sqOk s with
      | false => rfl
      | true =>
       cases c.Key with
       | false => rfl
       | true => rw [sel_t, sel_t, bnd_s, Bool.true_and, Bool.not_true, Bool.false_or]; rfl
     unfold sqAllB at hn ⊢
     rw [List.all_cons]
     cases hq : (sqOk s && sqLet s c) with
     | true =>
      rw [hq] at hstep
      rw [loop_go (hstep.trans (by rw [Bool.not_true, sel_f])), hn, Bool.true_and]
     | false =>
      rw [hq] at hstep
      rw [loop_done (hstep.trans (by rw [Bool.not_false, sel_t]))]
      simp
   have k0 : loop (spec_l16Ok_l2 l c) 0 = some (if sqAllB l c = true then .out () else .ret false) := key l [] rfl
   rw [k0, bnd_s]
   cases sqAllB l c <;> rfl
  ·
   rw [decide_eq_false (show ¬ (1 ≤ (l.length : Int) ∧ (l.length : Int) ≤ 64) by omega), decide_eq_false h64]; rfl
theorem tile_place {w h : Int} (hw : sideB w = true) (hh : sideB h = true) (i : Nat) (hi : (i : Int) < w / 8 * (h / 8)) : (8 ≤ w ∧ w ≤ 64) ∧ (8 ≤ h ∧ h ≤ 64) ∧ 1 ≤ w / 8 ∧ w / 8 ≤ 8 ∧ 1 ≤ h / 8 ∧ h / 8 ≤ 8 ∧ 0 ≤ (i : Int) % (w / 8) * 8 ∧ (i : Int) % (w / 8) * 8 ≤ w - 8 ∧ 0 ≤ (i : Int) / (w / 8) * 8 ∧ (i : Int) / (w / 8) * 8 ≤ h - 8 := by
 unfold sideB at hw hh
 rw [Bool.and_eq_true, decide_eq_true_eq, decide_eq_true_eq] at hw hh
 rw [tmod_pos (by omega)] at hw hh
 have h1 : 1 ≤ w / 8 ∧ w / 8 ≤ 8 := by omega
 have h2 : 1 ≤ h / 8 ∧ h / 8 ≤ 8 := by omega
 have m0 : 0 ≤ (i : Int) % (w / 8) := Int.emod_nonneg _ (by omega)
 have m1 : (i : Int) % (w / 8) < w / 8 := Int.emod_lt_of_pos _ (by omega)
 have d0 : 0 ≤ (i : Int) / (w / 8) := Int.ediv_nonneg (by omega) (by omega)
 have d1 : (i : Int) / (w / 8) < h / 8 := Int.ediv_lt_of_lt_mul (by omega) (by rw [Int.mul_comm]; exact hi)
 exact ⟨hw.2, hh.2, h1.1, h1.2, h2.1, h2.2, by omega, by omega, by omega, by omega⟩
theorem sideB_parts {w : Int} (hw : sideB w = true) : w % 8 = 0 ∧ 8 ≤ w ∧ w ≤ 64 := by
 unfold sideB at hw
 rw [Bool.and_eq_true, decide_eq_true_eq, decide_eq_true_eq] at hw
 rw [tmod_pos (by omega)] at hw
 exact ⟨hw.1, hw.2⟩
structure TbIn (ref : Pic) (le tp : Int) (r : Rect) (c : Cond) (l : List Square) : Prop where
 hw : sideB r.Wide = true
 hh : sideB r.High = true
 hl : 0 ≤ le ∧ le ≤ 256
 ht : 0 ≤ tp ∧ tp ≤ 256
 hc : condOk c = true
 hn : (l.length : Int) = r.Wide / 8 * (r.High / 8)
 hs : ∀ q ∈ l, q.Levels.length ≤ 1048576
 hr : c.Key = false → picOk ref = true
def tbI (r : Rect) (v : Int × Int × ByteArray) : Prop := picOk ⟨v.1, v.2.1, v.2.2⟩ = true ∧ v.1 = r.Wide ∧ v.2.1 = r.High
theorem tb_step {ref : Pic} {le tp : Int} {r : Rect} {c : Cond} {l : List Square} (H : TbIn ref le tp r c l) (i : Nat) (hi : i < l.length) (s : Int × Int × ByteArray) (hs : tbI r s) :
  ((sqOk (l.getD i dSquare) && sqLet (l.getD i dSquare) c) = false → impl_TileBack_l2 r c l (le, tp, ref.Wide, ref.High, ref.Dots) ((i : Int), s) = some (.done (.ret (⟨0, 0, ⟨#[]⟩⟩, false)))) ∧
  ((sqOk (l.getD i dSquare) && sqLet (l.getD i dSquare) c) = true → ∃ s', impl_TileBack_l2 r c l (le, tp, ref.Wide, ref.High, ref.Dots) ((i : Int), s) = some (.go (((i + 1 : Nat) : Int), s')) ∧ spec_TileBack_l2 r c l (le, tp, ref.Wide, ref.High, ref.Dots) ((i : Int), s) = some (.go (((i + 1 : Nat) : Int), s')) ∧ tbI r s') := by
 obtain ⟨hw, hh, hl, ht, hc, hn, hls, hr⟩ := H
 obtain ⟨w, h, dt⟩ := s
 obtain ⟨ok, e1, e2⟩ := hs
 simp only at ok e1 e2
 subst e1; subst e2
 obtain ⟨p1, p2, p3, p4, p5, p6, p7, p8, p9, p10⟩ := tile_place hw hh i (by omega)
 have hmem : l.getD i dSquare ∈ l := by rw [getD_at l i hi]; exact List.getElem_mem _
 have held : heldAt (⟨r.Wide, r.High, dt⟩ : Pic) ((i : Int) % (r.Wide / 8) * 8) ((i : Int) / (r.Wide / 8) * 8) = true := by
  unfold heldAt; rw [decide_eq_true_eq]; exact ⟨p7, p8, p9, p10⟩
 have SD : SdIn (⟨r.Wide, r.High, dt⟩ : Pic) ref le tp ((i : Int) % (r.Wide / 8) * 8) ((i : Int) / (r.Wide / 8) * 8) c (l.getD i dSquare) :=
  ⟨ok, by rw [tmod_pos p7]; omega, by rw [tmod_pos p9]; omega, held, hl, ht, hc, hls _ hmem⟩
 have l64 : l.length ≤ 64 := by
  have : r.Wide / 8 * (r.High / 8) ≤ 8 * 8 := Int.mul_le_mul (by omega) (by omega) (by omega) (by omega)
  omega
 have eI : impl_TileBack_l2 r c l (le, tp, ref.Wide, ref.High, ref.Dots) ((i : Int), r.Wide, r.High, dt) = bnd (impl_SquareDots (⟨r.Wide, r.High, dt⟩ : Pic) ref le tp c ((i : Int) % (r.Wide / 8) * 8) ((i : Int) / (r.Wide / 8) * 8) (l.getD i dSquare)) fun q21 => sel (!q21.2) (some (.done (.ret (⟨0, 0, ⟨#[]⟩⟩, false)))) (bnd (impl_put (⟨r.Wide, r.High, dt⟩ : Pic) ((i : Int) % (r.Wide / 8) * 8) ((i : Int) / (r.Wide / 8) * 8) q21.1) fun q22 => some (.go (((i + 1 : Nat) : Int), q22.Wide, q22.High, q22.Dots))) := by
  unfold impl_TileBack_l2
  simp only [Int.toNat_natCast]
  rw [sel_yes (by omega), req_p (by omega), req_p (by omega), tdiv_pos (a := r.Wide) (by omega), wk (e := r.Wide / 8) (by omega) (by omega), req_p (by omega), req_p (by omega), req_p (by omega), tmod_pos (a := (i : Int)) (by omega), tdiv_pos (a := (i : Int)) (by omega), wk (e := (i : Int) % (r.Wide / 8) * 8) (by omega) (by omega), wk (e := (i : Int) / (r.Wide / 8)) (by omega) (by omega), wk (e := (i : Int) / (r.Wide / 8) * 8) (by omega) (by omega), wk (e := (i : Int) + 1) (by omega) (by omega)]
  rfl
 have eS : spec_TileBack_l2 r c l (le, tp, ref.Wide, ref.High, ref.Dots) ((i : Int), r.Wide, r.High, dt) = bnd (spec_SquareDots (⟨r.Wide, r.High, dt⟩ : Pic) ref le tp c ((i : Int) % (r.Wide / 8) * 8) ((i : Int) / (r.Wide / 8) * 8) (l.getD i dSquare)) fun q21 => bnd (spec_l16Put (⟨r.Wide, r.High, dt⟩ : Pic) ((i : Int) % (r.Wide / 8) * 8) ((i : Int) / (r.Wide / 8) * 8) q21.1) fun q22 => some (.go (((i + 1 : Nat) : Int), q22.Wide, q22.High, q22.Dots)) := by
  unfold spec_TileBack_l2
  simp only [Int.toNat_natCast]
  rw [sel_yes (by omega), req_p (by omega), tdiv_pos (a := r.Wide) (by omega), wk (e := r.Wide / 8) (by omega) (by omega), req_p (by omega), req_p (by omega), req_p (by omega), req_p (by omega), tmod_pos (a := (i : Int)) (by omega), tdiv_pos (a := (i : Int)) (by omega), Int.mul_comm 8 ((i : Int) % (r.Wide / 8)), wk (e := (i : Int) / (r.Wide / 8)) (by omega) (by omega), Int.mul_comm 8 ((i : Int) / (r.Wide / 8)), wk (e := (i : Int) % (r.Wide / 8) * 8) (by omega) (by omega), wk (e := (i : Int) / (r.Wide / 8) * 8) (by omega) (by omega), wk (e := (i : Int) + 1) (by omega) (by omega)]
  rfl
 refine ⟨fun hq => ?_, fun hq => ?_⟩
 ·
  rw [eI, SquareDots_no SD hq, bnd_s]; rfl
 ·
  rw [Bool.and_eq_true] at hq
  obtain ⟨d, d1, d2, d3⟩ := SquareDots_both SD hq.1 hq.2 hr
  obtain ⟨p', ep, g1, g2, g3⟩ := spec_l16Put_ev ok held d3
  refine ⟨(p'.Wide, p'.High, p'.Dots), ?_, ?_, g1, g2, g3⟩
  ·
   rw [eI, d1, bnd_s, Bool.not_true, sel_f, put_alike d3 (by have := dots_len ok; have hm : maxLen = 9223372036854775807 := rfl; simp only at this ⊢; omega), ep, bnd_s]
  ·
   rw [eS, d2, bnd_s, ep, bnd_s]
theorem grey_in {r : Rect} (hw : sideB r.Wide = true) (hh : sideB r.High = true) : tbI r (r.Wide, r.High, strOfNums (List.replicate (r.Wide * r.High).toNat 128)) := by
 have a := sideB_parts hw
 have b := sideB_parts hh
 have ar := area_small (w := r.Wide) (h := r.High) (by omega) (by omega)
 refine ⟨picOk_of (by simp only; omega) (by simp only; omega) ?_, rfl, rfl⟩
 simp only
 rw [strOfNums_size, List.length_replicate]; omega
theorem tb_loops {ref : Pic} {le tp : Int} {r : Rect} {c : Cond} {l : List Square} (H : TbIn ref le tp r c l) (s0 : Int × Int × ByteArray) (h0 : tbI r s0) :
  (sqAllB l c = false → loop (impl_TileBack_l2 r c l (le, tp, ref.Wide, ref.High, ref.Dots)) (0, s0) = some (.ret (⟨0, 0, ⟨#[]⟩⟩, false))) ∧
  (sqAllB l c = true → ∃ s, loop (impl_TileBack_l2 r c l (le, tp, ref.Wide, ref.High, ref.Dots)) (0, s0) = some (.out s) ∧ loop (spec_TileBack_l2 r c l (le, tp, ref.Wide, ref.High, ref.Dots)) (0, s0) = some s ∧ tbI r s) := by
 have key : ∀ i : Nat, i ≤ l.length → ∀ s, tbI r s →
  ((∃ j, i ≤ j ∧ j < l.length ∧ (sqOk (l.getD j dSquare) && sqLet (l.getD j dSquare) c) = false) → loop (impl_TileBack_l2 r c l (le, tp, ref.Wide, ref.High, ref.Dots)) ((i : Int), s) = some (.ret (⟨0, 0, ⟨#[]⟩⟩, false))) ∧
  ((∀ j, i ≤ j → j < l.length → (sqOk (l.getD j dSquare) && sqLet (l.getD j dSquare) c) = true) → ∃ s', loop (impl_TileBack_l2 r c l (le, tp, ref.Wide, ref.High, ref.Dots)) ((i : Int), s) = some (.out s') ∧ loop (spec_TileBack_l2 r c l (le, tp, ref.Wide, ref.High, ref.Dots)) ((i : Int), s) = some s' ∧ tbI r s') := by
  refine down_to _ ?_ ?_
  ·
   intro s hs
   refine ⟨fun ⟨j, h1, h2, _⟩ => by omega, fun _ => ⟨s, ldone ?_, ldone ?_, hs⟩⟩
   ·
    unfold impl_TileBack_l2; rw [sel_no (by simp)]
   ·
    unfold spec_TileBack_l2; rw [sel_no (by simp)]
  ·
   intro i hi ih s hs
   obtain ⟨hno, hyes⟩ := tb_step H i hi s hs
   cases hq : (sqOk (l.getD i dSquare) && sqLet (l.getD i dSquare) c) with
   | false =>
    refine ⟨fun _ => ldone (hno hq), fun hall => ?_⟩
    have := hall i (Nat.le_refl _) hi
    rw [hq] at this; cases this
   | true =>
    obtain ⟨s', e1, e2, hs'⟩ := hyes hq
    obtain ⟨i1, i2⟩ := ih s' hs'
    refine ⟨fun ⟨j, h1, h2, h3⟩ => lgo e1 (i1 ⟨j, ?_, h2, h3⟩), fun hall => ?_⟩
    ·
     rcases Nat.lt_or_ge i j with h | h
     ·
      exact h
     ·
      have : j = i := by omega
      subst this
      rw [hq] at h3; cases h3
    ·
     obtain ⟨s2, k1, k2, k3⟩ := i2 fun j hj => hall j (by omega)
     exact ⟨s2, lgo e1 k1, lgo e2 k2, k3⟩
 obtain ⟨k1, k2⟩ := key 0 (by omega) s0 h0
 refine ⟨fun hf => k1 ?_, fun ht => k2 fun j _ hj => ?_⟩
 ·
  unfold sqAllB at hf
  rw [List.all_eq_false] at hf
  obtain ⟨x, hx, hxf⟩ := hf
  obtain ⟨j, hj, rfl⟩ := List.getElem_of_mem hx
  exact ⟨j, by omega, hj, by rw [getD_at l j hj]; simpa using hxf⟩
 ·
  unfold sqAllB at ht
  rw [List.all_eq_true] at ht
  exact ht _ (by rw [getD_at l j hj]; exact List.getElem_mem _)
theorem key_dots {now ref ref' : Pic} {l l' t t' x y : Int} {c : Cond} {q : Square} (h : SdIn now ref l t x y c q) (h' : SdIn now ref' l' t' x y c q) (hq : sqOk q = true) (hL : sqLet q c = true) (hK : c.Key = true) : spec_SquareDots now ref l t c x y q = spec_SquareDots now ref' l' t' c x y q := by
 have h2 : (q.Kind == 2) = true := by unfold sqLet at hL; rw [hK] at hL; simpa using hL
 unfold spec_SquareDots
 rw [spec_l01In_eq, spec_l01In_eq, spec_l01In_eq, spec_l01In_eq, decide_eq_true h.hl, decide_eq_true h.ht, decide_eq_true h'.hl, decide_eq_true h'.ht, h2]
 simp only [sel_t]
theorem key_loop {ref ref' : Pic} {le tp le' tp' : Int} {r : Rect} {c : Cond} {l : List Square} (H : TbIn ref le tp r c l) (H' : TbIn ref' le' tp' r c l) (hK : c.Key = true) (ha : sqAllB l c = true) (s0 : Int × Int × ByteArray) (h0 : tbI r s0) :
  loop (spec_TileBack_l2 r c l (le, tp, ref.Wide, ref.High, ref.Dots)) (0, s0) = loop (spec_TileBack_l2 r c l (le', tp', ref'.Wide, ref'.High, ref'.Dots)) (0, s0) := by
 have hall : ∀ i, i < l.length → (sqOk (l.getD i dSquare) && sqLet (l.getD i dSquare) c) = true := fun i hi => by
  unfold sqAllB at ha
  rw [List.all_eq_true] at ha
  exact ha _ (by rw [getD_at l i hi]; exact List.getElem_mem _)
 refine loop_nat l.length (fun _ s => tbI r s) ?_ ?_ h0
 ·
  intro i s hi hs
  rcases Nat.lt_or_ge i l.length with hlt | hge
  ·
   have hq := hall i hlt
   rw [Bool.and_eq_true] at hq
   obtain ⟨w, h, dt⟩ := s
   obtain ⟨ok, e1, e2⟩ := hs
   simp only at ok e1 e2
   subst e1; subst e2
   have hn := H.hn
   obtain ⟨p1, p2, p3, p4, p5, p6, p7, p8, p9, p10⟩ := tile_place H.hw H.hh i (by omega)
   have hmem : l.getD i dSquare ∈ l := by rw [getD_at l i hlt]; exact List.getElem_mem _
   have held : heldAt (⟨r.Wide, r.High, dt⟩ : Pic) ((i : Int) % (r.Wide / 8) * 8) ((i : Int) / (r.Wide / 8) * 8) = true := by
    unfold heldAt; rw [decide_eq_true_eq]; exact ⟨p7, p8, p9, p10⟩
   have SD : SdIn (⟨r.Wide, r.High, dt⟩ : Pic) ref le tp ((i : Int) % (r.Wide / 8) * 8) ((i : Int) / (r.Wide / 8) * 8) c (l.getD i dSquare) :=
    ⟨ok, by rw [tmod_pos p7]; omega, by rw [tmod_pos p9]; omega, held, H.hl, H.ht, H.hc, H.hs _ hmem⟩
   have SD' : SdIn (⟨r.Wide, r.High, dt⟩ : Pic) ref' le' tp' ((i : Int) % (r.Wide / 8) * 8) ((i : Int) / (r.Wide / 8) * 8) c (l.getD i dSquare) :=
    ⟨ok, by rw [tmod_pos p7]; omega, by rw [tmod_pos p9]; omega, held, H'.hl, H'.ht, H'.hc, H'.hs _ hmem⟩
   have l64 : l.length ≤ 64 := by
    have : r.Wide / 8 * (r.High / 8) ≤ 8 * 8 := Int.mul_le_mul (by omega) (by omega) (by omega) (by omega)
    omega
   unfold spec_TileBack_l2
   simp only [Int.toNat_natCast]
   refine sel_c (fun _ => req_c fun _ => ?_) fun _ => rfl
   rw [tdiv_pos (a := r.Wide) (by omega), wk (e := r.Wide / 8) (by omega) (by omega), tmod_pos (a := (i : Int)) (by omega), tdiv_pos (a := (i : Int)) (by omega), Int.mul_comm 8 ((i : Int) % (r.Wide / 8)), wk (e := (i : Int) / (r.Wide / 8)) (by omega) (by omega), Int.mul_comm 8 ((i : Int) / (r.Wide / 8)), wk (e := (i : Int) % (r.Wide / 8) * 8) (by omega) (by omega), wk (e := (i : Int) / (r.Wide / 8) * 8) (by omega) (by omega)]
   refine req_c fun _ => req_c fun _ => req_c fun _ => req_c fun _ => bnd_c ?_ fun _ _ => rfl
   exact key_dots SD SD' hq.1 hq.2 hK
  ·
   unfold spec_TileBack_l2
   rw [sel_no (by simp only; omega), sel_no (by simp only; omega)]
 ·
  intro i s v' hi hs he
  rcases Nat.lt_or_ge i l.length with hlt | hge
  ·
   obtain ⟨s', _, e2, hs'⟩ := (tb_step H' i hlt s hs).2 (hall i hlt)
   rw [e2] at he
   injection he with he
   injection he with he
   subst he
   exact ⟨rfl, by omega, hs'⟩
  ·
   unfold spec_TileBack_l2 at he
   rw [sel_no (by simp only; omega)] at he
   cases he
theorem TileBack_both (ref : Pic) (r : Rect) (c : Cond) (cf : Bool) (l : List Square) (hll : l.length ≤ 1048576) (hs : ∀ q ∈ l, q.Levels.length ≤ 1048576) : ∃ x, impl_TileBack ref r c cf l = some x ∧ spec_TileBack ref r c cf l = some x ∧ (x.2 = true → tbI r (x.1.Wide, x.1.High, x.1.Dots)) := by
 unfold impl_TileBack spec_TileBack
 rw [impl_isTile_eq, bnd_s, spec_l16Side_eq, bnd_s]
 cases hw : sideB r.Wide with
 | false => exact ⟨_, rfl, rfl, fun h => by cases h⟩
 | true =>
  rw [sel_t, sel_t, impl_isTile_eq, bnd_s, spec_l16Side_eq, bnd_s]
  cases hh : sideB r.High with
  | false => exact ⟨_, rfl, rfl, fun h => by cases h⟩
  | true =>
   rw [sel_t, sel_t, impl_within_eq, bnd_s, spec_l01In_eq, bnd_s]
   by_cases hL : 0 ≤ r.Left ∧ r.Left ≤ 256
   ·
    rw [decide_eq_true hL, sel_t, sel_t, impl_within_eq, bnd_s, spec_l01In_eq, bnd_s]
    by_cases hT : 0 ≤ r.Top ∧ r.Top ≤ 256
    ·
     rw [decide_eq_true hT, sel_t, sel_t, impl_CondOk_eq, bnd_s, spec_l16Ok_eq l c hll, bnd_s]
     cases hc : condOk c with
     | false => exact ⟨_, rfl, rfl, fun h => by cases h⟩
     | true =>
      have sw := sideB_parts hw
      have sh := sideB_parts hh
      have mb : r.Wide / 8 * (r.High / 8) ≤ 8 * 8 := Int.mul_le_mul (by omega) (by omega) (by omega) (by omega)
      have m0 : 1 * 1 ≤ r.Wide / 8 * (r.High / 8) := Int.mul_le_mul (by omega) (by omega) (by omega) (by omega)
      rw [sel_t, req_p (by omega), req_p (by omega), Bool.true_and, tdiv_pos (a := r.Wide) (by omega), tdiv_pos (a := r.High) (by omega), wk (e := r.Wide / 8) (by omega) (by omega), wk (e := r.High / 8) (by omega) (by omega), wk (e := r.Wide / 8 * (r.High / 8)) (by omega) (by omega)]
      by_cases hn : (l.length : Int) = r.Wide / 8 * (r.High / 8)
      ·
       have hne : ((l.length : Int) != r.Wide / 8 * (r.High / 8)) = false := by simpa using hn
       rw [decide_eq_true (show 1 ≤ l.length ∧ l.length ≤ 64 by omega), Bool.true_and, hne]
       -- the picture before
       have ha : (sel c.Key (some false) (bnd (impl_PicOk ref) fun q8 => sel q8 (bnd (impl_Pic_holds ref r) fun q9 => some (!q9)) (some true))) = some (!c.Key && !(picOk ref && holdsB ref r)) := by
        cases c.Key with
        | true => rfl
        | false =>
         rw [sel_f, impl_PicOk_eq, bnd_s]
         cases hp : picOk ref with
         | false => rfl
         | true => rw [sel_t, impl_holds_eq hp, bnd_s]; rfl
       have hb : (sel c.Key (some false) (bnd (spec_l12Within ref r.Left r.Top r.Wide r.High) fun q8 => some (!q8))) = some (!c.Key && !(picOk ref && holdsB ref r)) := by
        cases c.Key with
        | true => rfl
        | false => rw [sel_f, spec_l12Within_eq, bnd_s]; rfl
       have G := grey_in hw hh
       have gI := impl_Grey_eq r.Wide r.High (by omega) (by omega)
       have gS := spec_Grey_eq r.Wide r.High (by omega) (by omega)
       rw [ha, hb, gI, gS]
       simp only [bnd_s, sel_f]
       cases hbad : (!c.Key && !(picOk ref && holdsB ref r)) with
       | true => cases sqAllB l c <;> exact ⟨_, rfl, rfl, fun h => by cases h⟩
       | false =>
        have hr : c.Key = false → picOk ref = true ∧ holdsB ref r = true := by
         intro hk
         rw [hk] at hbad
         simp only [Bool.not_false, Bool.true_and, Bool.not_eq_false'] at hbad
         rwa [Bool.and_eq_true] at hbad
        have vI : ∃ (rI : Pic) (lI tI : Int), (sel cf (sel (!c.Key) (bnd (impl_CutOf ref r) fun q11 => some ((0 : Int), (0 : Int), q11.1.Wide, q11.1.High, q11.1.Dots)) (some (0, 0, ref.Wide, ref.High, ref.Dots))) (some (r.Left, r.Top, ref.Wide, ref.High, ref.Dots))) = some (lI, tI, rI.Wide, rI.High, rI.Dots) ∧ TbIn rI lI tI r c l ∧
          ∃ (rS : Pic) (lS tS : Int), (bnd (sel c.Key (some false) (some cf)) fun v10 => sel v10 (bnd (spec_CutOf ref r) fun q11 => some ((0 : Int), (0 : Int), q11.1.Wide, q11.1.High, q11.1.Dots)) (some (r.Left, r.Top, ref.Wide, ref.High, ref.Dots))) = some (lS, tS, rS.Wide, rS.High, rS.Dots) ∧ TbIn rS lS tS r c l ∧ (c.Key = false → rI = rS ∧ lI = lS ∧ tI = tS) := by
         cases hK : c.Key with
         | true =>
          have TT : ∀ le tp : Int, (0 ≤ le ∧ le ≤ 256) → (0 ≤ tp ∧ tp ≤ 256) → TbIn ref le tp r c l := fun le tp h1 h2 => ⟨hw, hh, h1, h2, hc, hn, hs, fun h => by rw [hK] at h; cases h⟩
          cases cf with
          | true => exact ⟨ref, 0, 0, rfl, TT 0 0 (by omega) (by omega), ref, r.Left, r.Top, rfl, TT _ _ hL hT, fun h => by cases h⟩
          | false => exact ⟨ref, r.Left, r.Top, rfl, TT _ _ hL hT, ref, r.Left, r.Top, rfl, TT _ _ hL hT, fun h => by cases h⟩
         | false =>
          obtain ⟨hp, ho⟩ := hr hK
          cases cf with
          | true =>
           rw [sel_t, Bool.not_false, sel_t, impl_CutOf_eq hp ho, bnd_s, sel_f, bnd_s, sel_t, spec_CutOf_eq hp ho, bnd_s]
           have TT : TbIn (cutP ref r) 0 0 r c l := ⟨hw, hh, by omega, by omega, hc, hn, hs, fun _ => cutP_ok hp ho⟩
           exact ⟨cutP ref r, 0, 0, rfl, TT, cutP ref r, 0, 0, rfl, TT, fun _ => ⟨rfl, rfl, rfl⟩⟩
          | false =>
           have TT : TbIn ref r.Left r.Top r c l := ⟨hw, hh, hL, hT, hc, hn, hs, fun _ => hp⟩
           exact ⟨ref, r.Left, r.Top, rfl, TT, ref, r.Left, r.Top, rfl, TT, fun _ => ⟨rfl, rfl, rfl⟩⟩
        obtain ⟨rI, lI, tI, eI, HI, rS, lS, tS, eS, HS, hk⟩ := vI
        rw [sel_f, eI, eS]
        simp only [bnd_s, sel_f]
        obtain ⟨n1, n2⟩ := tb_loops HI _ G
        cases hall : sqAllB l c with
        | false =>
         rw [n1 hall, bnd_s]
         exact ⟨_, rfl, rfl, fun h => by cases h⟩
        | true =>
         obtain ⟨s, e1, e2, e3⟩ := n2 hall
         have e4 : loop (spec_TileBack_l2 r c l (lS, tS, rS.Wide, rS.High, rS.Dots)) (0, r.Wide, r.High, strOfNums (List.replicate (r.Wide * r.High).toNat 128)) = some s := by
          cases hK : c.Key with
          | true => rw [key_loop HS HI hK hall _ G]; exact e2
          | false =>
           obtain ⟨q1, q2, q3⟩ := hk hK
           subst q1; subst q2; subst q3
           exact e2
         rw [e1, bnd_s, sel_t, bnd_s, sel_f, e4, bnd_s]
         exact ⟨_, rfl, rfl, fun _ => e3⟩
      ·
       have hne : ((l.length : Int) != r.Wide / 8 * (r.High / 8)) = true := by simpa using hn
       rw [hne, bnd_s, sel_t]
       refine ⟨_, rfl, ?_, fun h => by cases h⟩
       cases (decide (1 ≤ l.length ∧ l.length ≤ 64) && sqAllB l c) <;> rfl
    ·
     rw [decide_eq_false hT]; exact ⟨_, rfl, rfl, fun h => by cases h⟩
   ·
    rw [decide_eq_false hL]; exact ⟨_, rfl, rfl, fun h => by cases h⟩
theorem numsOf_getD (s : ByteArray) (k : Nat) (hk : k < s.size) : (numsOf s).getD k 0 = btOf s k := by
 have := bt_str (numsOf s) (by intro x hx; obtain ⟨b, _, rfl⟩ := List.mem_map.1 hx; have := b.toNat_lt; omega) k (by rw [numsOf_length]; exact hk)
 rw [str_numsOf] at this
 exact this.symm
theorem getD_r (a b : List Int) (i : Nat) : (a ++ b).getD (a.length + i) 0 = b.getD i 0 := by
 rw [List.getD_eq_getElem?_getD, List.getD_eq_getElem?_getD, List.getElem?_append_right (by omega)]
 congr 2; omega
theorem getD_l (a b : List Int) (i : Nat) (hi : i < a.length) : (a ++ b).getD i 0 = a.getD i 0 := by
 rw [List.getD_eq_getElem?_getD, List.getD_eq_getElem?_getD, List.getElem?_append_left hi]
theorem or_one (v x : Int) (h0 : 0 ≤ v) (h1 : v ≤ 1000000000000000000) (hx : x = 0 ∨ x = 1) : IntKind.wrap .i64 (BitVec.ofInt (IntKind.bits .i64) (v * 2) ||| BitVec.ofInt (IntKind.bits .i64) x).toNat = v * 2 + x := by
 obtain ⟨a, rfl⟩ : ∃ a : Nat, v = a := ⟨v.toNat, by omega⟩
 obtain ⟨b, rfl⟩ : ∃ b : Nat, x = b := ⟨x.toNat, by omega⟩
 have h : (BitVec.ofInt 64 ((a : Int) * 2) ||| BitVec.ofInt 64 (b : Int)).toNat = a * 2 + b := by
  rw [BitVec.toNat_or, BitVec.toNat_ofInt, BitVec.toNat_ofInt]
  have e1 : (((a : Int) * 2) % ((2 ^ 64 : Nat) : Int)).toNat = a * 2 := by omega
  have e2 : ((b : Int) % ((2 ^ 64 : Nat) : Int)).toNat = b := by omega
  rw [e1, e2]
  have := Nat.two_pow_add_eq_or_of_lt (i := 1) (b := b) (by omega) a
  rw [show 2 ^ 1 * a = a * 2 by omega] at this
  exact this.symm
 show IntKind.wrap .i64 ((BitVec.ofInt 64 ((a : Int) * 2) ||| BitVec.ofInt 64 (b : Int)).toNat : Int) = _
 rw [h, ← wrapK_eq, wk (by omega) (by omega)]
 omega
theorem pow_small {i : Nat} (h : i ≤ 40) : (2 : Int) ^ i ≤ 1099511627776 := by
 have h2 : (2 : Nat) ^ i ≤ 1099511627776 := Nat.pow_le_pow_right (n := 2) (by omega) h
 have := Int.ofNat_le.2 h2
 rw [Int.natCast_pow] at this
 exact this
theorem scan_fix_eq {L a f b : List Int} (hL : L = a ++ (f ++ b)) (hb : bitL L) (hl : L.length ≤ 400000) (hf : f.length ≤ 41) : impl_scan_fix ⟨strOfNums L, (a.length : Int), false⟩ (f.length : Int) = some (val8 f, ⟨strOfNums L, ((a.length + f.length : Nat) : Int), false⟩) := by
 have hLl : L.length = a.length + (f.length + b.length) := by rw [hL]; simp only [List.length_append]
 have hfb : bitL f := fun x hx => hb x (by rw [hL]; simp [hx])
 unfold impl_scan_fix
 simp only
 rw [sel_f, strOfNums_size, wk (by omega) (by omega), bnd_s, sel_no (by omega)]
 have key : ∀ i : Nat, i ≤ f.length → loop (impl_scan_fix_l2 ⟨strOfNums L, (a.length : Int), false⟩ (f.length : Int)) (val8 (f.take i), (i : Int)) = some (val8 f) := by
  refine down_to _ ?_ ?_
  ·
   refine ldone ?_
   unfold impl_scan_fix_l2
   simp only
   rw [sel_no (by omega), List.take_length]
  ·
   intro i hi ih
   refine lgo ?_ ih
   have hx : L.getD (a.length + i) 0 = f.getD i 0 := by rw [hL, getD_r, getD_l _ _ _ hi]
   have hbt : btOf (strOfNums L) ((a.length : Int) + i) = f.getD i 0 := by
    rw [show (a.length : Int) + i = ((a.length + i : Nat) : Int) by omega, bt_str L (bitL_byte hb) _ (by omega), hx]
   have h2 : f.getD i 0 = 48 ∨ f.getD i 0 = 49 := hfb _ (by rw [getD_at f i hi]; exact List.getElem_mem hi)
   have ht : bitL (f.take i) := fun x hx => hfb x (List.mem_of_mem_take hx)
   have hr := val_range ht
   have hp : (2 : Int) ^ (f.take i).length ≤ 1099511627776 := pow_small (by rw [List.length_take]; omega)
   have hv : val8 (f.take (i + 1)) = val8 (f.take i) * 2 + (f.getD i 0 - 48) := by
    rw [List.take_add_one, val_app, getD_at f i hi, List.getElem?_eq_getElem hi]
    simp [val8]
   unfold impl_scan_fix_l2
   simp only
   rw [sel_yes (by omega), req_p (by omega), wk (e := (a.length : Int) + i) (by omega) (by omega), req_p (by rw [strOfNums_size]; omega), hbt, w8 (by omega) (by omega), wk (e := f.getD i 0 - 48) (by omega) (by omega), show (2 : Int) ^ min (1 : Int).toNat (IntKind.bits .i64) = 2 from rfl, wk (e := val8 (f.take i) * 2) (by omega) (by omega), or_one _ _ (by omega) (by omega) (by omega), wk (by omega) (by omega), hv]
   rfl
 have := key 0 (by omega)
 rw [List.take_zero] at this
 refine (bnd_e this).trans ?_
 rw [wk (by omega) (by omega)]
 rfl
def sumN (t : Nat → Int) : Nat → Int
 | 0 => 0
 | k + 1 => sumN t k + t k
def eT (f : Nat → Int) (u : Nat) : Int := sumN (fun k => signPlace (u : Int) (k : Int) * f k) 8
def eS (X : Nat → Nat → Int) (u v : Nat) : Int := eT (fun i => eT (X i) v) u
theorem take_parts {L : List Int} {i w : Nat} (h : i + w ≤ L.length) : L = L.take i ++ ((L.drop i).take w ++ L.drop (i + w)) ∧ (L.take i).length = i ∧ ((L.drop i).take w).length = w := by
 refine ⟨?_, by rw [List.length_take]; omega, by rw [List.length_take, List.length_drop]; omega⟩
 rw [← List.drop_drop, List.take_append_drop, List.take_append_drop]
theorem impl_fix_at {L : List Int} (hb : bitL L) (hl : L.length ≤ 400000) {i w : Nat} (h : i + w ≤ L.length) (hw : w ≤ 41) : impl_scan_fix ⟨strOfNums L, (i : Int), false⟩ (w : Int) = some (val8 ((L.drop i).take w), ⟨strOfNums L, ((i + w : Nat) : Int), false⟩) := by
 obtain ⟨h1, h2, h3⟩ := take_parts h
 have := scan_fix_eq h1 hb hl (by omega)
 rw [h2, h3] at this
 exact this
theorem bt_row {L : List Int} (hb : bitL L) {i : Nat} (h : i < L.length) : btOf (strOfNums L) (i : Int) = L.getD i 0 ∧ (L.getD i 0 = 48 ∨ L.getD i 0 = 49) := ⟨bt_str L (bitL_byte hb) i h, hb _ (by rw [getD_at L i h]; exact List.getElem_mem h)⟩
theorem val_snoc {L : List Int} {i k : Nat} (h : i + k < L.length) : val8 ((L.drop i).take (k + 1)) = 2 * val8 ((L.drop i).take k) + L.getD (i + k) 0 - 48 := by
 rw [List.take_add_one, val_app, List.getElem?_eq_getElem (by rw [List.length_drop]; omega), List.getElem_drop, getD_at L _ h]
 simp [val8]
 omega
theorem spec_fix_at {L : List Int} (hb : bitL L) (hl : L.length ≤ 400000) {i w : Nat} (hi : i ≤ L.length) (hw : w ≤ 41) : spec_l02Read (strOfNums L) (i : Int) (w : Int) = some (if i + w ≤ L.length then (val8 ((L.drop i).take w), ((i + w : Nat) : Int), true) else (0, 0, false)) := by
 unfold spec_l02Read
 rw [strOfNums_size, wk (e := (L.length : Int) - i) (by omega) (by omega)]
 by_cases h : i + w ≤ L.length
 ·
  rw [sel_no (by omega), if_pos h]
  have key : ∀ k : Nat, k ≤ w → loop (spec_l02Read_l2 (strOfNums L) (i : Int) (w : Int)) (val8 ((L.drop i).take k), ((i + k : Nat) : Int)) = some (val8 ((L.drop i).take w)) := by
   refine down_to _ ?_ ?_
   ·
    refine ldone ?_
    unfold spec_l02Read_l2
    simp only
    rw [sel_no (by rw [wk (by omega) (by omega)]; omega)]
   ·
    intro k hk ih
    refine lgo ?_ ih
    obtain ⟨b1, b2⟩ := bt_row hb (i := i + k) (by omega)
    have hr := val_range (l := (L.drop i).take k) (fun x hx => hb x (List.mem_of_mem_drop (List.mem_of_mem_take hx)))
    have hp : (2 : Int) ^ ((L.drop i).take k).length ≤ 1099511627776 := pow_small (by rw [List.length_take]; omega)
    have hv := val_snoc (L := L) (i := i) (k := k) (by omega)
    unfold spec_l02Read_l2
    simp only
    rw [sel_yes (by rw [wk (by omega) (by omega)]; omega), req_p (by rw [strOfNums_size]; omega), b1, wk (e := 2 * val8 ((L.drop i).take k)) (by omega) (by omega), wk (e := L.getD (i + k) 0) (by omega) (by omega), wk (e := 2 * val8 ((L.drop i).take k) + L.getD (i + k) 0) (by omega) (by omega), wk (e := 2 * val8 ((L.drop i).take k) + L.getD (i + k) 0 - 48) (by omega) (by omega), wk (e := ((i + k : Nat) : Int) + 1) (by omega) (by omega), ← hv]
    rfl
  have := key 0 (by omega)
  refine (bnd_e this).trans ?_
  rw [wk (by omega) (by omega)]
  rfl
 ·
  rw [sel_yes (by omega), if_neg h]
theorem zeros_at {L : List Int} (hb : bitL L) : ∀ n i : Nat, i + n = L.length → ∃ z : Nat, i + z ≤ L.length ∧ (∀ k, k < z → L.getD (i + k) 0 = 48) ∧ (i + z < L.length → L.getD (i + z) 0 = 49)
 | 0, i, h => ⟨0, by omega, fun k hk => by omega, fun h2 => by omega⟩
 | n + 1, i, h => by
  rcases (bt_row hb (i := i) (by omega)).2 with e | e
  ·
   obtain ⟨z, h1, h2, h3⟩ := zeros_at hb n (i + 1) (by omega)
   refine ⟨z + 1, by omega, fun k hk => ?_, fun hz => ?_⟩
   ·
    cases k with
    | zero => exact e
    | succ k => have := h2 k (by omega); rwa [show i + 1 + k = i + (k + 1) by omega] at this
   ·
    have := h3 (by omega)
    rwa [show i + 1 + z = i + (z + 1) by omega] at this
  ·
   exact ⟨0, by omega, fun k hk => by omega, fun _ => e⟩
theorem val_zeros {L : List Int} {i : Nat} : ∀ z : Nat, i + z ≤ L.length → (∀ k, k < z → L.getD (i + k) 0 = 48) → val8 ((L.drop i).take z) = 0
 | 0, _, _ => rfl
 | z + 1, h, hz => by rw [val_snoc (by omega), val_zeros z (by omega) (fun k hk => hz k (by omega)), hz z (by omega)]; rfl
theorem val_split {L : List Int} {i z w : Nat} (h : i + z + w ≤ L.length) (hz : ∀ k, k < z → L.getD (i + k) 0 = 48) : val8 ((L.drop i).take (z + w)) = val8 ((L.drop (i + z)).take w) := by
 induction w with
 | zero => rw [Nat.add_zero, val_zeros z (by omega) hz]; rfl
 | succ w ih =>
  rw [← Nat.add_assoc, val_snoc (by omega), val_snoc (by omega), ih (by omega)]
  rw [Nat.add_assoc]
theorem val_one {L : List Int} (hb : bitL L) {i w : Nat} (h : i + (w + 1) ≤ L.length) (h1 : L.getD i 0 = 49) : (2 : Int) ^ w ≤ val8 ((L.drop i).take (w + 1)) := by
 induction w with
 | zero => rw [val_snoc (by omega)]; simp only [Nat.add_zero]; rw [h1, show val8 ((L.drop i).take 0) = 0 from rfl]; decide
 | succ w ih =>
  have := ih (by omega)
  have := (bt_row hb (i := i + (w + 1)) (by omega)).2
  rw [val_snoc (by omega), Int.pow_succ]
  omega
theorem pow_shift (z : Nat) (h : z ≤ 21) : 0 ≤ wrapK .u64 (z : Int) ∧ wrapK .i64 (1 * 2 ^ min (wrapK .u64 (z : Int)).toNat (IntKind.bits .i64)) = (2 : Int) ^ z := by
 have all : ∀ q : Fin 22, (0 ≤ wrapK .u64 (q.val : Int) ∧ wrapK .i64 (1 * 2 ^ min (wrapK .u64 (q.val : Int)).toNat (IntKind.bits .i64)) = (2 : Int) ^ q.val) := by decide +kernel
 exact all ⟨z, by omega⟩
theorem ue_bad (s : ByteArray) (a : Int) : impl_scan_ue ⟨s, a, true⟩ = some (0, ⟨s, a, true⟩) := by
 have h : impl_scan_ue_l2 ⟨s, a, true⟩ 0 = some (.done 0) := rfl
 unfold impl_scan_ue
 rw [loop_done h, bnd_s]
 rfl
theorem ue_both {L : List Int} (hb : bitL L) (hl : L.length ≤ 400000) (i : Nat) (hi : i ≤ L.length) :
  (∃ v j : Nat, spec_l03ReadUe (strOfNums L) (i : Int) = some ((v : Int), (j : Int), true) ∧ impl_scan_ue ⟨strOfNums L, (i : Int), false⟩ = some ((v : Int), ⟨strOfNums L, (j : Int), false⟩) ∧ v ≤ 1000000 ∧ i < j ∧ j ≤ L.length) ∨ (spec_l03ReadUe (strOfNums L) (i : Int) = some (0, 0, false) ∧ ∃ a : Int, impl_scan_ue ⟨strOfNums L, (i : Int), false⟩ = some (0, ⟨strOfNums L, a, true⟩)) := by
 obtain ⟨z, h1, h2, h3⟩ := zeros_at hb (L.length - i) i (by omega)
 have lI : loop (impl_scan_ue_l2 ⟨strOfNums L, (i : Int), false⟩) 0 = some (z : Int) := by
  have key : ∀ k : Nat, k ≤ z → loop (impl_scan_ue_l2 ⟨strOfNums L, (i : Int), false⟩) (k : Int) = some (z : Int) := by
   refine down_to _ ?_ ?_
   ·
    refine ldone ?_
    unfold impl_scan_ue_l2
    simp only
    rw [sel_f, wk (e := (i : Int) + (z : Int)) (by omega) (by omega), strOfNums_size]
    by_cases hlt : i + z < L.length
    ·
     rw [sel_yes (by omega), req_p (by omega), show (i : Int) + (z : Int) = ((i + z : Nat) : Int) by omega, (bt_row hb hlt).1, h3 hlt, bnd_s]; rfl
    ·
     rw [sel_no (by omega), bnd_s, sel_f]
   ·
    intro k hk ih
    refine lgo ?_ ih
    unfold impl_scan_ue_l2
    simp only
    rw [sel_f, wk (e := (i : Int) + (k : Int)) (by omega) (by omega), strOfNums_size, sel_yes (by omega), req_p (by omega), show (i : Int) + (k : Int) = ((i + k : Nat) : Int) by omega, (bt_row hb (by omega)).1, h2 k hk, bnd_s, wk (by omega) (by omega)]
    rfl
  exact key 0 (by omega)
 have lS : ∀ m : Nat, m = min z 21 → loop (spec_l03ReadUe_l2 (strOfNums L) (i : Int)) 0 = some (m : Int) := by
  intro m hm
  have key : ∀ k : Nat, k ≤ m → loop (spec_l03ReadUe_l2 (strOfNums L) (i : Int)) (k : Int) = some (m : Int) := by
   refine down_to _ ?_ ?_
   ·
    refine ldone ?_
    unfold spec_l03ReadUe_l2
    rw [wk (e := (i : Int) + (m : Int)) (by omega) (by omega), strOfNums_size]
    by_cases hlt : i + m < L.length
    ·
     rw [sel_yes (by omega), req_p (by omega), show (i : Int) + (m : Int) = ((i + m : Nat) : Int) by omega, (bt_row hb hlt).1]
     by_cases hz : z ≤ 21
     ·
      have : m = z := by omega
      subst this
      rw [h3 hlt, sel_neg (by rfl), bnd_s, sel_f]
     ·
      have : m = 21 := by omega
      subst this
      rw [h2 21 (by omega), sel_pos (by rfl), decide_eq_false (by omega), bnd_s, sel_f]
    ·
     rw [sel_no (by omega), bnd_s, sel_f]
   ·
    intro k hk ih
    refine lgo ?_ ih
    unfold spec_l03ReadUe_l2
    rw [wk (e := (i : Int) + (k : Int)) (by omega) (by omega), strOfNums_size, sel_yes (by omega), req_p (by omega), show (i : Int) + (k : Int) = ((i + k : Nat) : Int) by omega, (bt_row hb (by omega)).1, h2 k (by omega), sel_pos (by rfl), decide_eq_true (by omega), bnd_s, sel_t, wk (by omega) (by omega)]
    rfl
  exact key 0 (by omega)
 unfold spec_l03ReadUe impl_scan_ue
 rw [lI, bnd_s, lS _ rfl, bnd_s]
 simp only
 by_cases hz : z ≤ 20
 ·
  rw [show min z 21 = z by omega, sel_no (by omega), bnd_s, wk (e := 2 * (z : Int)) (by omega) (by omega), wk (e := 2 * (z : Int) + 1) (by omega) (by omega), wk (e := (i : Int) + (z : Int)) (by omega) (by omega), wk (e := (z : Int) + 1) (by omega) (by omega), show (i : Int) + (z : Int) = ((i + z : Nat) : Int) by omega, show (z : Int) + 1 = ((z + 1 : Nat) : Int) by omega, show 2 * (z : Int) + 1 = ((z + (z + 1) : Nat) : Int) by omega, spec_fix_at hb hl h1 (by omega), bnd_s]
  obtain ⟨p1, p2⟩ := pow_shift z (by omega)
  by_cases hfit : i + z + (z + 1) ≤ L.length
  ·
   rw [if_pos hfit, impl_fix_at hb hl (by omega) (by omega), bnd_s, val_split (by omega) h2]
   simp only
   have hge := val_one hb (i := i + z) (w := z) (by omega) (h3 (by omega))
   have hpp : (1 : Int) ≤ 2 ^ z := Int.pow_pos (by omega)
   have hr := val_range (l := (L.drop (i + z)).take (z + 1)) (fun x hx => hb x (List.mem_of_mem_drop (List.mem_of_mem_take hx)))
   have hp : (2 : Int) ^ ((L.drop (i + z)).take (z + 1)).length ≤ 1099511627776 := pow_small (by rw [List.length_take]; omega)
   generalize hq : val8 ((L.drop (i + z)).take (z + 1)) = q at *
   rw [sel_t, req_p p1, p2, sel_no (by omega), wk (e := q - 1) (by omega) (by omega), bnd_s, sel_f, bnd_s]
   by_cases hbig : q - 1 > 1000000
   ·
    rw [sel_yes hbig, sel_yes hbig]
    exact .inr ⟨rfl, _, rfl⟩
   ·
    rw [sel_no hbig, sel_no hbig]
    exact .inl ⟨(q - 1).toNat, i + z + (z + 1), by rw [show (((q - 1).toNat : Nat) : Int) = q - 1 by omega], by rw [show (((q - 1).toNat : Nat) : Int) = q - 1 by omega, show i + (z + (z + 1)) = i + z + (z + 1) by omega], by omega, by omega, by omega⟩
  ·
   rw [if_neg hfit]
   simp only
   rw [sel_f, bnd_s, sel_t]
   refine .inr ⟨rfl, (i : Int), ?_⟩
   have : impl_scan_fix ⟨strOfNums L, (i : Int), false⟩ ((z + (z + 1) : Nat) : Int) = some (0, ⟨strOfNums L, (i : Int), true⟩) := by
    unfold impl_scan_fix
    simp only
    rw [sel_f, strOfNums_size, wk (by omega) (by omega), bnd_s, sel_yes (by omega)]
   rw [this, bnd_s]
   rfl
 ·
  have hm : min z 21 = 21 := by omega
  rw [hm, sel_yes (by omega), bnd_s]
  refine .inr ⟨?_, (i : Int), ?_⟩
  ·
   rw [wk (e := (i : Int) + ((21 : Nat) : Int)) (by omega) (by omega), wk (e := ((21 : Nat) : Int) + 1) (by omega) (by omega), show (i : Int) + ((21 : Nat) : Int) = ((i + 21 : Nat) : Int) by omega, show ((21 : Nat) : Int) + 1 = ((22 : Nat) : Int) by omega, spec_fix_at hb hl (by omega) (by omega), bnd_s]
   obtain ⟨p1, p2⟩ := pow_shift 21 (by omega)
   by_cases hfit : i + 21 + 22 ≤ L.length
   ·
    rw [if_pos hfit]
    simp only
    rw [sel_t, req_p p1, p2]
    by_cases h21 : z = 21
    ·
     subst h21
     have hge : (2 : Int) ^ 21 ≤ val8 ((L.drop (i + 21)).take 22) := val_one hb (i := i + 21) (w := 21) (by omega) (h3 (by omega))
     have hr := val_range (l := (L.drop (i + 21)).take 22) (fun x hx => hb x (List.mem_of_mem_drop (List.mem_of_mem_take hx)))
     have hp : (2 : Int) ^ ((L.drop (i + 21)).take 22).length ≤ 1099511627776 := pow_small (by rw [List.length_take]; omega)
     have e21 : (2 : Int) ^ 21 = 2097152 := by decide
     rw [e21] at hge ⊢
     rw [sel_no (by omega), wk (by omega) (by omega), decide_eq_true (by omega), bnd_s, sel_t]
    ·
     have hlt : val8 ((L.drop (i + 21)).take 22) < 2 ^ 21 := by
      have a := val_split (L := L) (i := i + 21) (z := 1) (w := 21) (by omega) (fun k hk => by
       have : k = 0 := by omega
       subst this
       exact h2 21 (by omega))
      rw [show (1 + 21 : Nat) = 22 from rfl] at a
      have hr := val_range (l := (L.drop (i + 21 + 1)).take 21) (fun x hx => hb x (List.mem_of_mem_drop (List.mem_of_mem_take hx)))
      rw [a]
      have : ((L.drop (i + 21 + 1)).take 21).length = 21 := by rw [List.length_take, List.length_drop]; omega
      rw [this] at hr
      exact hr.2
     rw [sel_yes hlt, bnd_s, sel_t]
   ·
    rw [if_neg hfit]
    simp only
    rw [sel_f, bnd_s, sel_t]
  ·
   have : ∀ w : Int, impl_scan_fix ⟨strOfNums L, (i : Int), true⟩ w = some (0, ⟨strOfNums L, (i : Int), true⟩) := fun w => rfl
   rw [this, bnd_s]
   rfl
theorem open_both (v : Nat) (hv : v ≤ 1000000) : ∃ n : Int, impl_OpenSe (v : Int) = some (n, true) ∧ spec_OpenSe (v : Int) = some (n, true) ∧ -500000 ≤ n ∧ n ≤ 500000 := by
 unfold impl_OpenSe spec_OpenSe
 rw [impl_within_eq, bnd_s, spec_l01In_eq, bnd_s, decide_eq_true (by omega), Bool.not_true, sel_f, sel_f, req_p (by omega), req_p (by omega), tmod_pos (by omega)]
 by_cases h : (v : Int) % 2 = 1
 ·
  rw [sel_pos (by rw [beq_iff_eq]; exact h), sel_pos (by rw [beq_iff_eq]; exact h), req_p (by omega), wk (e := (v : Int) + 1) (by omega) (by omega), tdiv_pos (by omega), wk (by omega) (by omega)]
  exact ⟨_, rfl, rfl, by omega, by omega⟩
 ·
  rw [sel_neg (by rw [beq_eq_false_iff_ne]; exact h), sel_neg (by rw [beq_eq_false_iff_ne]; exact h), req_p (by omega), req_p (by omega), wk (e := 0 - (v : Int)) (by omega) (by omega)]
  have e1 : (0 - (v : Int)).tdiv 2 = -((v : Int) / 2) := by
   rw [show (0 - (v : Int)) = (-((v : Int) / 2)) * 2 by omega]
   exact Int.mul_tdiv_cancel _ (by omega)
  rw [e1, tdiv_pos (a := (v : Int)) (by omega), wk (e := (v : Int) / 2) (by omega) (by omega), wk (e := 0 - (v : Int) / 2) (by omega) (by omega), wk (e := -((v : Int) / 2)) (by omega) (by omega), show 0 - (v : Int) / 2 = -((v : Int) / 2) by omega]
  exact ⟨_, rfl, rfl, by omega, by omega⟩
theorem se_bad (s : ByteArray) (a : Int) : impl_scan_se ⟨s, a, true⟩ = some (0, ⟨s, a, true⟩) := by
 unfold impl_scan_se
 rw [ue_bad, bnd_s]
 rfl
theorem se_both {L : List Int} (hb : bitL L) (hl : L.length ≤ 400000) (i : Nat) (hi : i ≤ L.length) :
  (∃ (n : Int) (j : Nat), spec_l03ReadSe (strOfNums L) (i : Int) = some (n, (j : Int), true) ∧ impl_scan_se ⟨strOfNums L, (i : Int), false⟩ = some (n, ⟨strOfNums L, (j : Int), false⟩) ∧ (-500000 ≤ n ∧ n ≤ 500000) ∧ i < j ∧ j ≤ L.length) ∨ (spec_l03ReadSe (strOfNums L) (i : Int) = some (0, 0, false) ∧ ∃ a : Int, impl_scan_se ⟨strOfNums L, (i : Int), false⟩ = some (0, ⟨strOfNums L, a, true⟩)) := by
 unfold spec_l03ReadSe impl_scan_se
 rcases ue_both hb hl i hi with ⟨v, j, e1, e2, h1, h2, h3⟩ | ⟨e1, a, e2⟩
 ·
  obtain ⟨n, o1, o2, o3, o4⟩ := open_both v h1
  refine .inl ⟨n, j, ?_, ?_, ⟨o3, o4⟩, h2, h3⟩
  ·
   rw [e1, bnd_s]
   simp only
   rw [Bool.not_true, sel_f, o2, bnd_s]
  ·
   rw [e2, bnd_s]
   simp only
   rw [o1, bnd_s]
   rfl
 ·
  refine .inr ⟨?_, a, ?_⟩
  ·
   rw [e1, bnd_s]; rfl
  ·
   rw [e2, bnd_s]; rfl
def RunsAt (L : List Int) (N n pos : Nat) : Prop := pos ≤ N → N ≤ pos + n → ∀ (i : Nat) (l : List Int) (rem : Nat), i ≤ L.length → l.length = N → rem ≤ 1000000 →
  (∃ (j : Nat) (l' : List Int), (∀ (k : Nat) (q1 : Int × Int × Bool), q1.1 = ((k + rem : Nat) : Int) → k + rem ≤ 1000000 → loop (spec_l11Read_l2 (strOfNums L) (N : Int) q1) ((i : Int), (pos : Int), (k : Int), l) = some (.out ((j : Int), l'))) ∧ loop (impl_scan_runs_l2 (N : Int)) ((pos : Int), (rem : Int), strOfNums L, (i : Int), false, l) = some (l', strOfNums L, (j : Int), false) ∧ l'.length = N ∧ j ≤ L.length ∧ rem ≤ N - pos) ∨
  ((∀ (k : Nat) (q1 : Int × Int × Bool), q1.1 = ((k + rem : Nat) : Int) → k + rem ≤ 1000000 → loop (spec_l11Read_l2 (strOfNums L) (N : Int) q1) ((i : Int), (pos : Int), (k : Int), l) = some (.ret ([], 0, false))) ∧ ∃ (l' : List Int) (a : Int), loop (impl_scan_runs_l2 (N : Int)) ((pos : Int), (rem : Int), strOfNums L, (i : Int), false, l) = some (l', strOfNums L, a, true) ∧ l'.length = N)
theorem runs_step {L : List Int} (hb : bitL L) (hl : L.length ≤ 400000) (N : Nat) (hN : N ≤ 64) (n : Nat) (ih : ∀ n', n' + 1 = n → ∀ pos, RunsAt L N n' pos) (pos : Nat) : RunsAt L N n pos := by
 intro hp hn i l rem hi hll hrem
 cases rem with
 | zero =>
  refine .inl ⟨i, l, fun k q1 hq hk => ldone ?_, ldone ?_, hll, hi, by omega⟩
  ·
   unfold spec_l11Read_l2
   simp only
   rw [sel_no (by omega)]
  ·
   unfold impl_scan_runs_l2
   simp only
   rw [sel_no (by omega), bnd_s, sel_f]
 | succ r =>
  have sI : impl_scan_runs_l2 (N : Int) ((pos : Int), ((r + 1 : Nat) : Int), strOfNums L, (i : Int), false, l) = bnd (impl_scan_ue ⟨strOfNums L, (i : Int), false⟩) fun q17 => bnd (impl_scan_se q17.2) fun q18 => bnd (sel (decide ((wrapK .i64 ((pos : Int) + q17.1)) ≥ (N : Int))) (some true) (sel (q18.1 == 0) (some true) (bnd (impl_within q18.1 (-5000) 5000) fun q20 => some (!q20)))) fun v19 => sel v19 (some (.done (l, q18.2.row_, q18.2.at_, true))) (req (0 ≤ (wrapK .i64 ((pos : Int) + q17.1)) ∧ (wrapK .i64 ((pos : Int) + q17.1)) < l.length) <| req ((wrapK .i64 ((pos : Int) + q17.1)).toNat < l.length) <| some (.go (wrapK .i64 ((wrapK .i64 ((pos : Int) + q17.1)) + 1), wrapK .i64 (((r + 1 : Nat) : Int) - 1), q18.2.row_, q18.2.at_, q18.2.bad_, (l.set ((wrapK .i64 ((pos : Int) + q17.1)).toNat) q18.1)))) := by
   unfold impl_scan_runs_l2
   simp only
   rw [sel_yes (by omega), Bool.not_false, bnd_s, sel_t]
  have sS : ∀ (k : Nat) (q1 : Int × Int × Bool), q1.1 = ((k + (r + 1) : Nat) : Int) → spec_l11Read_l2 (strOfNums L) (N : Int) q1 ((i : Int), (pos : Int), (k : Int), l) = bnd (spec_l03ReadUe (strOfNums L) (i : Int)) fun q17 => bnd (sel q17.2.2 (some (decide (q17.1 > (wrapK .i64 ((wrapK .i64 ((N : Int) - 1)) - (pos : Int)))))) (some true)) fun v18 => sel v18 (some (.done (.ret (([] : List Int), 0, false)))) (bnd (spec_l03ReadSe (strOfNums L) q17.2.1) fun q19 => bnd (sel q19.2.2 (sel (q19.1 == 0) (some true) (bnd (spec_l01In q19.1 (-5000) 5000) fun q21 => some (!q21))) (some true)) fun v20 => sel v20 (some (.done (.ret (([] : List Int), 0, false)))) (req (0 ≤ (wrapK .i64 ((pos : Int) + q17.1)) ∧ (wrapK .i64 ((pos : Int) + q17.1)) < l.length) <| req ((wrapK .i64 ((pos : Int) + q17.1)).toNat < l.length) <| some (.go (q19.2.1, wrapK .i64 ((wrapK .i64 ((pos : Int) + q17.1)) + 1), wrapK .i64 ((k : Int) + 1), (l.set ((wrapK .i64 ((pos : Int) + q17.1)).toNat) q19.1))))) := fun k q1 hq => by
   unfold spec_l11Read_l2
   simp only
   rw [sel_yes (by omega)]
  rcases ue_both hb hl i hi with ⟨v, j, e1, e2, h1, h2, h3⟩ | ⟨e1, a, e2⟩
  ·
   rw [e2, bnd_s] at sI
   simp only at sI
   have sS' := fun k q1 hq => (sS k q1 hq).trans (by rw [e1, bnd_s])
   simp only at sS'
   by_cases hge : pos + v ≥ N
   ·
    refine .inr ⟨fun k q1 hq hk => ldone ((sS' k q1 hq).trans ?_), ?_⟩
    ·
     rw [sel_t, wk (e := (N : Int) - 1) (by omega) (by omega), wk (e := (N : Int) - 1 - pos) (by omega) (by omega), decide_eq_true (by omega), bnd_s, sel_t]
    ·
     rcases se_both hb hl j h3 with ⟨m, j2, _, f2, _⟩ | ⟨_, a, f2⟩
     ·
      refine ⟨l, (j2 : Int), ldone (sI.trans ?_), hll⟩
      rw [f2, bnd_s, wk (e := (pos : Int) + v) (by omega) (by omega), sel_yes (by omega), bnd_s, sel_t]
     ·
      refine ⟨l, a, ldone (sI.trans ?_), hll⟩
      rw [f2, bnd_s, wk (e := (pos : Int) + v) (by omega) (by omega), sel_yes (by omega), bnd_s, sel_t]
   ·
    have sS2 := fun k q1 hq => (sS' k q1 hq).trans (by rw [sel_t, wk (e := (N : Int) - 1) (by omega) (by omega), wk (e := (N : Int) - 1 - pos) (by omega) (by omega), decide_eq_false (by omega), bnd_s, sel_f])
    rw [wk (e := (pos : Int) + v) (by omega) (by omega)] at sI
    rcases se_both hb hl j h3 with ⟨m, j2, f1, f2, f3, f4, f5⟩ | ⟨f1, a, f2⟩
    ·
     rw [f2, bnd_s, sel_no (by omega)] at sI
     have sS3 := fun k q1 hq => (sS2 k q1 hq).trans (by rw [f1, bnd_s])
     simp only at sS3 sI
     by_cases hm : m = 0 ∨ ¬ (-5000 ≤ m ∧ m ≤ 5000)
     ·
      have hv : (sel (m == 0) (some true) (bnd (impl_within m (-5000) 5000) fun q20 => some (!q20))) = some true ∧ (sel true (sel (m == 0) (some true) (bnd (spec_l01In m (-5000) 5000) fun q20 => some (!q20))) (some true)) = some true := by
       rw [sel_t, impl_within_eq, spec_l01In_eq, bnd_s]
       rcases hm with h0 | h0
       ·
        rw [sel_pos (by rw [beq_iff_eq]; exact h0)]; exact ⟨rfl, rfl⟩
       ·
        rw [decide_eq_false h0]
        cases (m == 0) <;> exact ⟨rfl, rfl⟩
      refine .inr ⟨fun k q1 hq hk => ldone ((sS3 k q1 hq).trans ?_), l, (j2 : Int), ldone (sI.trans ?_), hll⟩
      ·
       rw [hv.2, bnd_s, sel_t]
      ·
       rw [hv.1, bnd_s, sel_t]
     ·
      have hm0 : m ≠ 0 := fun h => hm (.inl h)
      have hm1 : -5000 ≤ m ∧ m ≤ 5000 := Classical.byContradiction fun h => hm (.inr h)
      have hv : (sel (m == 0) (some true) (bnd (impl_within m (-5000) 5000) fun q20 => some (!q20))) = some false ∧ (sel true (sel (m == 0) (some true) (bnd (spec_l01In m (-5000) 5000) fun q20 => some (!q20))) (some true)) = some false := by
       rw [sel_t, impl_within_eq, spec_l01In_eq, bnd_s, sel_neg (by rw [beq_eq_false_iff_ne]; exact hm0), decide_eq_true hm1]
       exact ⟨rfl, rfl⟩
      have gI : impl_scan_runs_l2 (N : Int) ((pos : Int), ((r + 1 : Nat) : Int), strOfNums L, (i : Int), false, l) = some (.go (((pos + v + 1 : Nat) : Int), (r : Int), strOfNums L, (j2 : Int), false, l.set (pos + v) m)) := by
       rw [sI, hv.1, bnd_s, sel_f, req_p (by omega), req_p (by omega), wk (by omega) (by omega), wk (by omega) (by omega), show ((r + 1 : Nat) : Int) - 1 = (r : Int) by omega, show ((pos : Int) + (v : Int)).toNat = pos + v by omega]
       rfl
      have gS : ∀ (k : Nat) (q1 : Int × Int × Bool), q1.1 = ((k + (r + 1) : Nat) : Int) → k + (r + 1) ≤ 1000000 → spec_l11Read_l2 (strOfNums L) (N : Int) q1 ((i : Int), (pos : Int), (k : Int), l) = some (.go ((j2 : Int), ((pos + v + 1 : Nat) : Int), ((k + 1 : Nat) : Int), l.set (pos + v) m)) := fun k q1 hq hk => by
       refine (sS3 k q1 hq).trans ?_
       rw [hv.2, bnd_s, sel_f, wk (e := (pos : Int) + v) (by omega) (by omega), req_p (by omega), req_p (by omega), wk (by omega) (by omega), wk (by omega) (by omega), show ((pos : Int) + (v : Int)).toNat = pos + v by omega]
       rfl
      have hR := ih (n - 1) (by omega) (pos + v + 1) (by omega) (by omega) j2 (l.set (pos + v) m) r f5 (by rw [List.length_set]; exact hll) (by omega)
      rcases hR with ⟨j3, l', r1, r2, r3, r4, r5⟩ | ⟨r1, l', a, r2, r3⟩
      ·
       exact .inl ⟨j3, l', fun k q1 hq hk => lgo (gS k q1 hq hk) (r1 (k + 1) q1 (by rw [hq]; omega) (by omega)), lgo gI r2, r3, r4, by omega⟩
      ·
       exact .inr ⟨fun k q1 hq hk => lgo (gS k q1 hq hk) (r1 (k + 1) q1 (by rw [hq]; omega) (by omega)), l', a, lgo gI r2, r3⟩
    ·
     refine .inr ⟨fun k q1 hq hk => ldone ((sS2 k q1 hq).trans ?_), l, a, ldone (sI.trans ?_), hll⟩
     ·
      rw [f1, bnd_s]; rfl
     ·
      rw [f2, bnd_s, sel_no (by omega)]; rfl
  ·
   refine .inr ⟨fun k q1 hq hk => ldone ((sS k q1 hq).trans ?_), l, a, ldone (sI.trans ?_), hll⟩
   ·
    rw [e1, bnd_s]; rfl
   ·
    rw [e2, bnd_s]
    simp only
    rw [se_bad, bnd_s]
    simp only
    cases decide ((wrapK .i64 ((pos : Int) + 0)) ≥ (N : Int)) <;> rfl
theorem runs_at {L : List Int} (hb : bitL L) (hl : L.length ≤ 400000) (N : Nat) (hN : N ≤ 64) : ∀ n pos : Nat, RunsAt L N n pos := by
 intro n
 induction n with
 | zero => exact fun pos => runs_step hb hl N hN 0 (fun n' h => by omega) pos
 | succ n ih => exact fun pos => runs_step hb hl N hN (n + 1) (fun n' h pos => by
   have : n' = n := by omega
   subst this
   exact ih pos) pos
theorem runs_bad (s : ByteArray) (a : Int) (N : Nat) (hN : N ≤ 64) : impl_scan_runs ⟨s, a, true⟩ (N : Int) = some (List.replicate N 0, ⟨s, a, true⟩) := by
 unfold impl_scan_runs
 rw [req_p (by omega), ue_bad, bnd_s]
 have h : ∀ l, impl_scan_runs_l2 (N : Int) (0, 0, s, a, true, l) = some (.done (l, s, a, true)) := fun l => rfl
 simp only
 rw [loop_done (h _), bnd_s, Int.toNat_natCast]
theorem runs_both {L : List Int} (hb : bitL L) (hl : L.length ≤ 400000) (N : Nat) (hN : N ≤ 64) (i : Nat) (hi : i ≤ L.length) :
  (∃ (l : List Int) (j : Nat), spec_l11Read (strOfNums L) (i : Int) (N : Int) = some (l, (j : Int), true) ∧ impl_scan_runs ⟨strOfNums L, (i : Int), false⟩ (N : Int) = some (l, ⟨strOfNums L, (j : Int), false⟩) ∧ l.length = N ∧ j ≤ L.length) ∨ (spec_l11Read (strOfNums L) (i : Int) (N : Int) = some ([], 0, false) ∧ ∃ (l : List Int) (a : Int), impl_scan_runs ⟨strOfNums L, (i : Int), false⟩ (N : Int) = some (l, ⟨strOfNums L, a, true⟩) ∧ l.length = N) := by
 unfold spec_l11Read impl_scan_runs
 rw [req_p (by omega), req_p (by omega)]
 rcases ue_both hb hl i hi with ⟨v, j, e1, e2, h1, h2, h3⟩ | ⟨e1, a, e2⟩
 ·
  rw [e1, bnd_s, e2, bnd_s]
  simp only
  rw [sel_t, bnd_s, Int.toNat_natCast]
  rcases runs_at hb hl N hN N 0 (by omega) (by omega) j (List.replicate N 0) v h3 (by simp) h1 with ⟨j3, l', r1, r2, r3, r4, r5⟩ | ⟨r1, l', a, r2, r3⟩
  ·
   have r1' := r1 0 ((v : Int), (j : Int), true) (by simp) (by omega)
   have r2' : loop (impl_scan_runs_l2 (N : Int)) (0, (v : Int), strOfNums L, (j : Int), false, List.replicate N 0) = some (l', strOfNums L, (j3 : Int), false) := r2
   have r3' : loop (spec_l11Read_l2 (strOfNums L) (N : Int) ((v : Int), (j : Int), true)) ((j : Int), 0, 0, List.replicate N 0) = some (.out ((j3 : Int), l')) := r1'
   rw [sel_no (by omega), r2', r3', bnd_s, bnd_s]
   exact .inl ⟨l', j3, rfl, rfl, r3, r4⟩
  ·
   have r2' : loop (impl_scan_runs_l2 (N : Int)) (0, (v : Int), strOfNums L, (j : Int), false, List.replicate N 0) = some (l', strOfNums L, a, true) := r2
   refine .inr ⟨?_, l', a, ?_, r3⟩
   ·
    by_cases hbig : (v : Int) > N
    ·
     rw [sel_yes hbig]
    ·
     have r3' : loop (spec_l11Read_l2 (strOfNums L) (N : Int) ((v : Int), (j : Int), true)) ((j : Int), 0, 0, List.replicate N 0) = some (.ret ([], 0, false)) := r1 0 ((v : Int), (j : Int), true) (by simp) (by omega)
     rw [sel_no hbig, r3', bnd_s]
   ·
    rw [r2', bnd_s]
 ·
  refine .inr ⟨?_, List.replicate N 0, a, ?_, by simp⟩
  ·
   rw [e1, bnd_s]; rfl
  ·
   rw [e2, bnd_s]
   have h : ∀ l, impl_scan_runs_l2 (N : Int) (0, 0, strOfNums L, a, true, l) = some (.done (l, strOfNums L, a, true)) := fun l => rfl
   simp only
   rw [loop_done (h _), bnd_s, Int.toNat_natCast]
theorem lev_bad (s : ByteArray) (a : Int) : ∀ n k : Nat, k + n = 4 → ∀ l : List Int, l.length = 16 * k → ∃ l' : List Int, loop impl_scan_levels_l2 ((k : Int), s, a, true, l) = some (l', s, a, true) ∧ l'.length = 64
 | 0, k, hk, l, hl => ⟨l, ldone (by unfold impl_scan_levels_l2; simp only; rw [sel_no (by omega)]), by omega⟩
 | n + 1, k, hk, l, hl => by
  have hm : maxLen = 9223372036854775807 := rfl
  obtain ⟨l', e, h⟩ := lev_bad s a n (k + 1) (by omega) (l ++ List.replicate 16 0) (by rw [List.length_append, List.length_replicate]; omega)
  refine ⟨l', lgo ?_ e, h⟩
  have := runs_bad s a 16 (by omega)
  unfold impl_scan_levels_l2
  simp only
  rw [sel_yes (by omega)]
  refine (bnd_e this).trans ?_
  simp only
  rw [req_p (by simp only [List.length_replicate]; omega), wk (by omega) (by omega)]
  rfl
theorem levels_bad (s : ByteArray) (a : Int) (c : Cond) : ∃ l : List Int, impl_scan_levels ⟨s, a, true⟩ c = some (l, ⟨s, a, true⟩) ∧ l.length = 64 := by
 unfold impl_scan_levels
 rw [sel_or, bnd_s]
 by_cases h : (c.Large || c.Exact) = true
 ·
  rw [sel_pos h]
  have := runs_bad s a 64 (by omega)
  exact ⟨_, (bnd_e this).trans rfl, by simp⟩
 ·
  rw [sel_neg (by simpa using h)]
  obtain ⟨l', e, hl⟩ := lev_bad s a 4 0 rfl [] rfl
  exact ⟨l', (bnd_e e).trans rfl, hl⟩
theorem lev_both {L : List Int} (hb : bitL L) (hl : L.length ≤ 400000) : ∀ n k : Nat, k + n = 4 → ∀ (i : Nat) (l : List Int), i ≤ L.length → l.length = 16 * k →
  (∃ (l' : List Int) (j : Nat), loop (spec_l14Read_l2 (strOfNums L)) ((i : Int), (k : Int), l) = some (.out ((j : Int), l')) ∧ loop impl_scan_levels_l2 ((k : Int), strOfNums L, (i : Int), false, l) = some (l', strOfNums L, (j : Int), false) ∧ l'.length = 64 ∧ j ≤ L.length) ∨
  (loop (spec_l14Read_l2 (strOfNums L)) ((i : Int), (k : Int), l) = some (.ret ([], 0, false)) ∧ ∃ (l' : List Int) (a : Int), loop impl_scan_levels_l2 ((k : Int), strOfNums L, (i : Int), false, l) = some (l', strOfNums L, a, true) ∧ l'.length = 64)
 | 0, k, hk, i, l, hi, hll => .inl ⟨l, i, ldone (by unfold spec_l14Read_l2; simp only; rw [sel_no (by omega)]), ldone (by unfold impl_scan_levels_l2; simp only; rw [sel_no (by omega)]), by omega, hi⟩
 | n + 1, k, hk, i, l, hi, hll => by
  have hm : maxLen = 9223372036854775807 := rfl
  rcases runs_both hb hl 16 (by omega) i hi with ⟨q, j, e1, e2, h1, h2⟩ | ⟨e1, q, a, e2, h1⟩
  ·
   have gI : impl_scan_levels_l2 ((k : Int), strOfNums L, (i : Int), false, l) = some (.go (((k + 1 : Nat) : Int), strOfNums L, (j : Int), false, l ++ q)) := by
    unfold impl_scan_levels_l2
    simp only
    rw [sel_yes (by omega)]
    refine (bnd_e e2).trans ?_
    simp only
    rw [req_p (by omega), wk (by omega) (by omega)]
    rfl
   have gS : spec_l14Read_l2 (strOfNums L) ((i : Int), (k : Int), l) = some (.go ((j : Int), ((k + 1 : Nat) : Int), l ++ q)) := by
    unfold spec_l14Read_l2
    simp only
    rw [sel_yes (by omega)]
    refine (bnd_e e1).trans ?_
    simp only
    rw [Bool.not_true, sel_f, req_p (by omega), wk (by omega) (by omega)]
    rfl
   rcases lev_both hb hl n (k + 1) (by omega) j (l ++ q) h2 (by rw [List.length_append]; omega) with ⟨l', j', r1, r2, r3, r4⟩ | ⟨r1, l', a, r2, r3⟩
   ·
    exact .inl ⟨l', j', lgo gS r1, lgo gI r2, r3, r4⟩
   ·
    exact .inr ⟨lgo gS r1, l', a, lgo gI r2, r3⟩
  ·
   obtain ⟨l', r1, r2⟩ := lev_bad (strOfNums L) a n (k + 1) (by omega) (l ++ q) (by rw [List.length_append]; omega)
   refine .inr ⟨ldone ?_, l', a, lgo ?_ r1, r2⟩
   ·
    unfold spec_l14Read_l2
    simp only
    rw [sel_yes (by omega)]
    refine (bnd_e e1).trans ?_
    rfl
   ·
    unfold impl_scan_levels_l2
    simp only
    rw [sel_yes (by omega)]
    refine (bnd_e e2).trans ?_
    simp only
    rw [req_p (by omega), wk (by omega) (by omega)]
    rfl
theorem levels_both {L : List Int} (hb : bitL L) (hl : L.length ≤ 400000) (i : Nat) (hi : i ≤ L.length) (c : Cond) :
  (∃ (l : List Int) (j : Nat), spec_l14Read (strOfNums L) (i : Int) c = some (l, (j : Int), true) ∧ impl_scan_levels ⟨strOfNums L, (i : Int), false⟩ c = some (l, ⟨strOfNums L, (j : Int), false⟩) ∧ l.length = 64 ∧ j ≤ L.length) ∨
  (spec_l14Read (strOfNums L) (i : Int) c = some ([], 0, false) ∧ ∃ (l : List Int) (a : Int), impl_scan_levels ⟨strOfNums L, (i : Int), false⟩ c = some (l, ⟨strOfNums L, a, true⟩) ∧ l.length = 64) := by
 unfold spec_l14Read impl_scan_levels
 rw [sel_or, bnd_s, bnd_s]
 by_cases h : (c.Large || c.Exact) = true
 ·
  rw [sel_pos h, sel_pos h]
  rcases runs_both hb hl 64 (by omega) i hi with ⟨q, j, e1, e2, h1, h2⟩ | ⟨e1, q, a, e2, h1⟩
  ·
   exact .inl ⟨q, j, (bnd_e e1).trans rfl, (bnd_e e2).trans rfl, h1, h2⟩
  ·
   exact .inr ⟨(bnd_e e1).trans rfl, q, a, (bnd_e e2).trans rfl, h1⟩
 ·
  rw [sel_neg (by simpa using h), sel_neg (by simpa using h)]
  rcases lev_both hb hl 4 0 rfl i [] hi rfl with ⟨l', j', r1, r2, r3, r4⟩ | ⟨r1, l', a, r2, r3⟩
  ·
   exact .inl ⟨l', j', (bnd_e r1).trans rfl, (bnd_e r2).trans rfl, r3, r4⟩
  ·
   exact .inr ⟨(bnd_e r1).trans rfl, l', a, (bnd_e r2).trans rfl, r3⟩
theorem square_bad (s : ByteArray) (a : Int) (c : Cond) : ∃ (q : Square) (a' : Int), impl_scan_square ⟨s, a, true⟩ c = some (q, ⟨s, a', true⟩) := by
 unfold impl_scan_square
 cases hK : c.Key with
 | true => exact ⟨_, _, rfl⟩
 | false =>
  simp only
  rw [Bool.not_false, sel_t, ue_bad, bnd_s, bnd_s]
  exact ⟨_, _, rfl⟩
theorem square_both {L : List Int} (hb : bitL L) (hl : L.length ≤ 400000) (i : Nat) (hi : i ≤ L.length) (c : Cond) :
  (∃ (q : Square) (j : Nat), spec_l15Read (strOfNums L) (i : Int) c = some (q, (j : Int), true) ∧ impl_scan_square ⟨strOfNums L, (i : Int), false⟩ c = some (q, ⟨strOfNums L, (j : Int), false⟩) ∧ q.Levels.length ≤ 64 ∧ j ≤ L.length ∧ sqOk q = true ∧ sqLet q c = true) ∨
  (spec_l15Read (strOfNums L) (i : Int) c = some (⟨0, 0, 0, 0, []⟩, 0, false) ∧ ∃ (q : Square) (a : Int), impl_scan_square ⟨strOfNums L, (i : Int), false⟩ c = some (q, ⟨strOfNums L, a, true⟩)) := by
 -- the kind
 have tail : ∀ (kd : Int) (i1 : Nat), i1 ≤ L.length → (0 ≤ kd ∧ kd ≤ 2) → (c.Key = true → kd = 2) → ∀ (x y : Option (Square × Int × Bool)) (z : Option (Square × Scan)),
   x = (sel (kd == 0) (some ((⟨kd, 0, 0, 0, []⟩ : Square), (i1 : Int), true)) (sel (kd == 1) (bnd (spec_l03ReadSe (strOfNums L) i1) fun q5 => sel (!q5.2.2) (some ((⟨0, 0, 0, 0, []⟩ : Square), 0, false)) (bnd (spec_l03ReadSe (strOfNums L) q5.2.1) fun q6 => (sel (!q6.2.2) (some ((⟨0, 0, 0, 0, []⟩ : Square), 0, false)) (bnd (spec_l14Read (strOfNums L) q6.2.1 c) fun q8 => bnd (sel q8.2.2 (bnd (spec_SquareOk (⟨kd, 0, q5.1, q6.1, q8.1⟩ : Square)) fun q10 => some (!q10)) (some true)) fun v9 => sel v9 (some ((⟨0, 0, 0, 0, []⟩ : Square), 0, false)) (some ((⟨kd, 0, q5.1, q6.1, q8.1⟩ : Square), q8.2.1, true)))))) (bnd (spec_l03ReadUe (strOfNums L) i1) fun q7 => (sel (!q7.2.2) (some ((⟨0, 0, 0, 0, []⟩ : Square), 0, false)) (bnd (spec_l14Read (strOfNums L) q7.2.1 c) fun q8 => bnd (sel q8.2.2 (bnd (spec_SquareOk (⟨kd, q7.1, 0, 0, q8.1⟩ : Square)) fun q10 => some (!q10)) (some true)) fun v9 => sel v9 (some ((⟨0, 0, 0, 0, []⟩ : Square), 0, false)) (some ((⟨kd, q7.1, 0, 0, q8.1⟩ : Square), q8.2.1, true))))))) →
   z = (bnd (sel (kd == 1) (bnd (impl_scan_se (⟨strOfNums L, (i1 : Int), false⟩ : Scan)) fun q4 => bnd (impl_scan_se q4.2) fun q5 => bnd (impl_scan_levels q5.2 c) fun q6 => some (q6.2.row_, q6.2.at_, q6.2.bad_, (0 : Int), q4.1, q5.1, q6.1)) (sel (kd == 2) (bnd (impl_scan_ue (⟨strOfNums L, (i1 : Int), false⟩ : Scan)) fun q7 => bnd (impl_scan_levels q7.2 c) fun q8 => some (q8.2.row_, q8.2.at_, q8.2.bad_, q7.1, 0, 0, q8.1)) (some (strOfNums L, (i1 : Int), false, 0, 0, 0, [])))) fun v3 => bnd (sel v3.2.2.1 (some true) (bnd (impl_SquareOk (⟨kd, v3.2.2.2.1, v3.2.2.2.2.1, v3.2.2.2.2.2.1, v3.2.2.2.2.2.2⟩ : Square)) fun q10 => some (!q10))) fun v9 => some ((⟨kd, v3.2.2.2.1, v3.2.2.2.2.1, v3.2.2.2.2.2.1, v3.2.2.2.2.2.2⟩ : Square), (⟨v3.1, v3.2.1, v9⟩ : Scan))) →
   (∃ (q : Square) (j : Nat), x = some (q, (j : Int), true) ∧ z = some (q, ⟨strOfNums L, (j : Int), false⟩) ∧ q.Levels.length ≤ 64 ∧ j ≤ L.length ∧ sqOk q = true ∧ sqLet q c = true) ∨ (x = some (⟨0, 0, 0, 0, []⟩, 0, false) ∧ ∃ (q : Square) (a : Int), z = some (q, ⟨strOfNums L, a, true⟩)) := by
  intro kd i1 hi1 hkd hkey x _ z hx hz
  subst hx; subst hz
  obtain h0 | h1 | h2 : kd = 0 ∨ kd = 1 ∨ kd = 2 := by omega
  ·
   subst h0
   exact .inl ⟨⟨0, 0, 0, 0, []⟩, i1, rfl, rfl, by simp, hi1, rfl, by
    unfold sqLet
    cases hK : c.Key with
    | false => rfl
    | true => exact absurd (hkey hK) (by decide)⟩
  ·
   subst h1
   have hlet : ∀ q : Square, q.Kind = 1 → sqLet q c = true := fun q hq => by
    unfold sqLet
    cases hK : c.Key with
    | false => rfl
    | true => exact absurd (hkey hK) (by decide)
   rw [sel_neg (b := ((1 : Int) == 0)) (by rfl), sel_pos (b := ((1 : Int) == 1)) (by rfl), sel_pos (b := ((1 : Int) == 1)) (by rfl)]
   rcases se_both hb hl i1 hi1 with ⟨dx, j, e1, e2, h1, h2, h3⟩ | ⟨e1, a, e2⟩
   ·
    rw [e1, bnd_s, e2, bnd_s]
    simp only
    rw [Bool.not_true, sel_f]
    rcases se_both hb hl j h3 with ⟨dy, j2, f1, f2, g1, g2, g3⟩ | ⟨f1, a, f2⟩
    ·
     rw [f1, bnd_s, f2, bnd_s]
     simp only
     rw [Bool.not_true, sel_f]
     rcases levels_both hb hl j2 g3 c with ⟨lv, j3, k1, k2, k3, k4⟩ | ⟨k1, lv, a, k2, k3⟩
     ·
      rw [k1, bnd_s, k2, bnd_s, bnd_s]
      simp only
      rw [sel_t, sel_f, spec_SquareOk_eq, bnd_s, impl_SquareOk_eq _ (by simp only; omega), bnd_s, bnd_s, bnd_s]
      cases hq : sqOk ⟨1, 0, dx, dy, lv⟩ with
      | true => exact .inl ⟨_, j3, rfl, rfl, by simp only; omega, k4, hq, hlet _ rfl⟩
      | false => exact .inr ⟨rfl, _, _, rfl⟩
     ·
      rw [k1, bnd_s, k2, bnd_s, bnd_s]
      exact .inr ⟨rfl, _, _, rfl⟩
    ·
     rw [f1, bnd_s, f2, bnd_s]
     obtain ⟨lv, k2, _⟩ := levels_bad (strOfNums L) a c
     simp only
     rw [k2, bnd_s, bnd_s]
     exact .inr ⟨rfl, _, _, rfl⟩
   ·
    rw [e1, bnd_s, e2, bnd_s]
    obtain ⟨lv, k2, _⟩ := levels_bad (strOfNums L) a c
    simp only
    rw [se_bad, bnd_s]
    simp only
    rw [k2, bnd_s, bnd_s]
    exact .inr ⟨rfl, _, _, rfl⟩
  ·
   subst h2
   have hlet : ∀ q : Square, q.Kind = 2 → sqLet q c = true := fun q hq => by
    unfold sqLet
    rw [hq]
    cases c.Key <;> rfl
   rw [sel_neg (b := ((2 : Int) == 0)) (by rfl), sel_neg (b := ((2 : Int) == 1)) (by rfl), sel_neg (b := ((2 : Int) == 1)) (by rfl), sel_pos (b := ((2 : Int) == 2)) (by rfl)]
   rcases ue_both hb hl i1 hi1 with ⟨m, j2, f1, f2, g1, g2, g3⟩ | ⟨f1, a, f2⟩
   ·
    rw [f1, bnd_s, f2, bnd_s]
    simp only
    rw [Bool.not_true, sel_f]
    rcases levels_both hb hl j2 g3 c with ⟨lv, j3, k1, k2, k3, k4⟩ | ⟨k1, lv, a, k2, k3⟩
    ·
     rw [k1, bnd_s, k2, bnd_s, bnd_s]
     simp only
     rw [sel_t, sel_f, spec_SquareOk_eq, bnd_s, impl_SquareOk_eq _ (by simp only; omega), bnd_s, bnd_s, bnd_s]
     cases hq : sqOk ⟨2, (m : Int), 0, 0, lv⟩ with
     | true => exact .inl ⟨_, j3, rfl, rfl, by simp only; omega, k4, hq, hlet _ rfl⟩
     | false => exact .inr ⟨rfl, _, _, rfl⟩
    ·
     rw [k1, bnd_s, k2, bnd_s, bnd_s]
     exact .inr ⟨rfl, _, _, rfl⟩
   ·
    rw [f1, bnd_s, f2, bnd_s]
    obtain ⟨lv, k2, _⟩ := levels_bad (strOfNums L) a c
    simp only
    rw [k2, bnd_s, bnd_s]
    exact .inr ⟨rfl, _, _, rfl⟩
 unfold spec_l15Read impl_scan_square
 simp only [joinK]
 cases hK : c.Key with
 | true =>
  rw [Bool.not_true, sel_f, sel_f, bnd_s]
  simp only
  rw [sel_f]
  exact tail 2 i hi (by omega) (fun _ => rfl) _ none _ rfl rfl
 | false =>
  rw [Bool.not_false, sel_t, sel_t]
  rcases ue_both hb hl i hi with ⟨v, j, e1, e2, h1, h2, h3⟩ | ⟨e1, a, e2⟩
  ·
   rw [e1, bnd_s, e2, bnd_s, bnd_s]
   simp only
   rw [sel_t, bnd_s]
   by_cases hv : (v : Int) > 2
   ·
    rw [sel_yes hv]
    rw [sel_f, sel_neg (b := (v : Int) == 1) (by rw [beq_eq_false_iff_ne]; omega), sel_neg (b := (v : Int) == 2) (by rw [beq_eq_false_iff_ne]; omega), bnd_s]
    simp only
    have hq : sqOk ⟨(v : Int), 0, 0, 0, []⟩ = false := by
     unfold sqOk
     rw [if_neg (by simp only; omega), if_neg (by simp only; omega), if_neg (by simp only; omega)]
    rw [sel_f, impl_SquareOk_eq _ (by simp), bnd_s, hq]
    exact .inr ⟨trivial, _, _, rfl⟩
   ·
    rw [sel_no hv, sel_f]
    exact tail v j h3 (by omega) (fun h => by rw [hK] at h; cases h) _ none _ rfl rfl
  ·
   rw [e1, bnd_s, e2, bnd_s, bnd_s]
   exact .inr ⟨rfl, _, _, rfl⟩
theorem rowOk_both (s : ByteArray) : (∃ L : List Int, s = strOfNums L ∧ bitL L ∧ L.length ≤ 400000 ∧ impl_RowOk s = some true ∧ spec_RowOk s = some true) ∨ (impl_RowOk s = some false ∧ spec_RowOk s = some false) := by
 have hf : impl_RowOk_l2 s = spec_l02Row_l2 s := rfl
 unfold impl_RowOk spec_RowOk
 by_cases hs : s.size ≤ 400000
 ·
  rw [sel_no (by omega), sel_yes (by omega), hf]
  unfold spec_l02Row
  have hl := all_loop (fun x => x == 48 || x == 49) (numsOf s) (spec_l02Row_l2 s) (by
   intro i hi
   rw [numsOf_length] at hi
   unfold spec_l02Row_l2
   rw [sel_yes (by omega), req_p (by omega), req_p (by omega), numsOf_getD s i hi, wk (by omega) (by omega)]
   generalize btOf s i = x
   cases h1 : (x == 48) <;> cases h2 : (x == 49) <;> simp only [bne, h1, h2, sel, bnd, Bool.not_true, Bool.not_false, Bool.or_false, Bool.or_true, Bool.true_or] <;> rfl) (by
   rw [numsOf_length]
   unfold spec_l02Row_l2
   rw [sel_no (by omega)])
  rw [hl]
  by_cases hall : (numsOf s).all (fun x => x == 48 || x == 49) = true
  ·
   rw [if_pos hall]
   refine .inl ⟨numsOf s, (str_numsOf s).symm, fun x hx => ?_, by rw [numsOf_length]; exact hs, rfl, rfl⟩
   have := List.all_eq_true.1 hall x hx
   simpa using this
  ·
   rw [if_neg hall]
   exact .inr ⟨rfl, rfl⟩
 ·
  rw [sel_yes (by omega), sel_no (by omega)]
  exact .inr ⟨rfl, rfl⟩
theorem tile_loop {L : List Int} (hb : bitL L) (hl : L.length ≤ 400000) (N : Nat) (hN : N ≤ 64) (c : Cond) (hc : condOk c = true) : ∀ n k : Nat, k + n = N → ∀ (i : Nat) (l : List Square), i ≤ L.length → l.length = k → (∀ q ∈ l, q.Levels.length ≤ 64) → sqAll l c = true →
  (∃ (l' : List Square) (j : Nat), loop (spec_ReadTile_l2 (strOfNums L) (N : Int) c) ((i : Int), (k : Int), l) = some (.out ((j : Int), l')) ∧ loop (impl_ReadTile_l2 (N : Int) c) ((k : Int), strOfNums L, (i : Int), false, l) = some (.out (strOfNums L, (j : Int), false, l')) ∧ l'.length = N ∧ (∀ q ∈ l', q.Levels.length ≤ 64) ∧ sqAll l' c = true) ∨
  (loop (spec_ReadTile_l2 (strOfNums L) (N : Int) c) ((i : Int), (k : Int), l) = some (.ret ([], false)) ∧ loop (impl_ReadTile_l2 (N : Int) c) ((k : Int), strOfNums L, (i : Int), false, l) = some (.ret ([], false)))
 | 0, k, hk, i, l, hi, hll, hq, hs => .inl ⟨l, i, ldone (by unfold spec_ReadTile_l2; simp only; rw [sel_no (by omega)]), ldone (by unfold impl_ReadTile_l2; simp only; rw [sel_no (by omega)]), by omega, hq, hs⟩
 | n + 1, k, hk, i, l, hi, hll, hq, hs => by
  have hm : maxLen = 9223372036854775807 := rfl
  rcases square_both hb hl i hi c with ⟨q, j, e1, e2, h1, h2, h3, h4⟩ | ⟨e1, q, a, e2⟩
  ·
   have gI : impl_ReadTile_l2 (N : Int) c ((k : Int), strOfNums L, (i : Int), false, l) = some (.go (((k + 1 : Nat) : Int), strOfNums L, (j : Int), false, l ++ [q])) := by
    unfold impl_ReadTile_l2
    simp only
    rw [sel_yes (by omega), e2, bnd_s]
    simp only
    rw [req_p (by simp only [List.length_singleton]; omega), sel_f, wk (by omega) (by omega)]
    rfl
   have gS : spec_ReadTile_l2 (strOfNums L) (N : Int) c ((i : Int), (k : Int), l) = some (.go ((j : Int), ((k + 1 : Nat) : Int), l ++ [q])) := by
    unfold spec_ReadTile_l2
    simp only
    rw [sel_yes (by omega), e1, bnd_s]
    simp only
    rw [Bool.not_true, sel_f, req_p (by simp only [List.length_singleton]; omega), wk (by omega) (by omega)]
    rfl
   have hq' : ∀ x ∈ l ++ [q], x.Levels.length ≤ 64 := fun x hx => by
    rcases List.mem_append.1 hx with h | h
    ·
     exact hq x h
    ·
     rw [List.mem_singleton.1 h]; exact h1
   have hs' : sqAll (l ++ [q]) c = true := by
    unfold sqAll at hs ⊢
    rw [List.all_append, hs, Bool.true_and, List.all_cons, h3, hc, h4]; rfl
   rcases tile_loop hb hl N hN c hc n (k + 1) (by omega) j (l ++ [q]) h2 (by rw [List.length_append, hll]; rfl) hq' hs' with ⟨l', j', r1, r2, r3⟩ | ⟨r1, r2⟩
   ·
    exact .inl ⟨l', j', lgo gS r1, lgo gI r2, r3⟩
   ·
    exact .inr ⟨lgo gS r1, lgo gI r2⟩
  ·
   refine .inr ⟨ldone ?_, ldone ?_⟩
   ·
    unfold spec_ReadTile_l2
    simp only
    rw [sel_yes (by omega), e1, bnd_s]
    rfl
   ·
    unfold impl_ReadTile_l2
    simp only
    rw [sel_yes (by omega), e2, bnd_s]
    simp only
    rw [req_p (by simp only [List.length_singleton]; omega), sel_t]
def ReadP (n : Int) (c : Cond) (l : List Square) : Prop := condOk c = true ∧ (1 ≤ n ∧ n ≤ 64) ∧ (l.length : Int) = n ∧ sqAll l c = true
theorem ReadTile_both (s : ByteArray) (a n : Int) (c : Cond) : ∃ (l : List Square) (b : Bool), impl_ReadTile s a n c = some (l, b) ∧ spec_ReadTile s a n c = some (l, b) ∧ l.length ≤ 64 ∧ (∀ q ∈ l, q.Levels.length ≤ 64) ∧ (b = true → ReadP n c l) := by
 have hm : maxLen = 9223372036854775807 := rfl
 have fin : ∀ {x y : Option (List Square × Bool)}, x = some ([], false) → y = some ([], false) → ∃ (l : List Square) (b : Bool), x = some (l, b) ∧ y = some (l, b) ∧ l.length ≤ 64 ∧ (∀ q ∈ l, q.Levels.length ≤ 64) ∧ (b = true → ReadP n c l) := fun h1 h2 => ⟨[], false, h1, h2, by simp, fun q hq => by simp at hq, fun h => by cases h⟩
 unfold impl_ReadTile spec_ReadTile impl_opened
 by_cases hn : 1 ≤ n ∧ n ≤ 64
 ·
  by_cases hc : condOk c = true
  case neg =>
   have hc : condOk c = false := by simpa using hc
   refine fin ?_ ?_
   ·
    rcases rowOk_both s with ⟨L, _, _, _, r1, _⟩ | ⟨r1, _⟩
    ·
     rw [r1, bnd_s, sel_t, impl_within_eq, bnd_s, bnd_s, bnd_s, impl_within_eq, bnd_s, decide_eq_true hn, sel_t, impl_CondOk_eq, bnd_s, hc, bnd_s]; rfl
    ·
     rw [r1, bnd_s, sel_f, bnd_s, bnd_s, impl_within_eq, bnd_s, decide_eq_true hn, sel_t, impl_CondOk_eq, bnd_s, hc, bnd_s]; rfl
   ·
    rcases rowOk_both s with ⟨L, _, _, _, _, r1⟩ | ⟨_, r1⟩
    ·
     rw [r1, bnd_s, sel_t, spec_l01In_eq, bnd_s, spec_CondOk_eq, bnd_s, hc, sel_f]
     cases decide (0 ≤ a ∧ a ≤ (s.size : Int)) <;> rfl
    ·
     rw [r1, bnd_s, sel_f, bnd_s, sel_t]
  case pos =>
   rcases rowOk_both s with ⟨L, hL, hb, hl, r1, r2⟩ | ⟨r1, r2⟩
   ·
    rw [r1, r2, bnd_s, bnd_s, sel_t, sel_t, impl_within_eq, bnd_s, spec_l01In_eq, bnd_s, bnd_s, bnd_s, impl_within_eq, bnd_s, decide_eq_true hn, sel_t, impl_CondOk_eq, bnd_s, hc, bnd_s, spec_CondOk_eq, bnd_s, hc, sel_t, spec_l01In_eq, bnd_s, decide_eq_true hn]
    by_cases ha : 0 ≤ a ∧ a ≤ (s.size : Int)
    ·
     rw [decide_eq_true ha]
     simp only [Bool.not_true, sel_f, sel_t, bnd_s]
     subst hL
     rw [strOfNums_size] at ha ⊢
     obtain ⟨i, rfl⟩ : ∃ i : Nat, a = i := ⟨a.toNat, by omega⟩
     obtain ⟨N, rfl⟩ : ∃ N : Nat, n = N := ⟨n.toNat, by omega⟩
     rcases tile_loop hb hl N (by omega) c hc N 0 (by omega) i [] (by omega) rfl (fun q hq => by simp at hq) rfl with ⟨l', j, k1, k2, k3, k4, k5⟩ | ⟨k1, k2⟩
     ·
      have k1' : loop (spec_ReadTile_l2 (strOfNums L) (N : Int) c) ((i : Int), 0, []) = some (.out ((j : Int), l')) := k1
      have k2' : loop (impl_ReadTile_l2 (N : Int) c) (0, strOfNums L, (i : Int), false, []) = some (.out (strOfNums L, (j : Int), false, l')) := k2
      rw [k1', k2', bnd_s, bnd_s]
      simp only
      by_cases hj : (j : Int) = (L.length : Int)
      ·
       rw [sel_neg (by rw [bne_eq_false_iff_eq]; exact hj)]
       exact ⟨l', true, rfl, rfl, by omega, k4, fun _ => ⟨hc, hn, by omega, k5⟩⟩
      ·
       rw [sel_pos (by rw [bne_iff_ne]; exact hj)]
       exact fin rfl rfl
     ·
      have k1' : loop (spec_ReadTile_l2 (strOfNums L) (N : Int) c) ((i : Int), 0, []) = some (.ret ([], false)) := k1
      have k2' : loop (impl_ReadTile_l2 (N : Int) c) (0, strOfNums L, (i : Int), false, []) = some (.ret ([], false)) := k2
      rw [k1', k2', bnd_s, bnd_s]
      exact fin rfl rfl
    ·
     rw [decide_eq_false ha]
     simp only [Bool.not_true, Bool.not_false, sel_f, sel_t, bnd_s]
     obtain ⟨q, a', eq⟩ := square_bad s a c
     have hd : impl_ReadTile_l2 n c (0, s, a, true, []) = some (.done (.ret ([], false))) := by
      unfold impl_ReadTile_l2
      simp only
      rw [sel_yes (by omega), eq, bnd_s]
      simp only
      rw [req_p (by simp only [List.length_singleton, List.length_nil]; omega), sel_t]
     rw [loop_done hd, bnd_s]
     exact fin rfl rfl
   ·
    refine fin ?_ ?_
    ·
     rw [r1, bnd_s, sel_f, bnd_s, bnd_s, impl_within_eq, bnd_s, decide_eq_true hn, sel_t, impl_CondOk_eq, bnd_s, hc, bnd_s, Bool.not_true, sel_f]
     simp only
     obtain ⟨q, a', eq⟩ := square_bad s a c
     have hd : impl_ReadTile_l2 n c (0, s, a, true, []) = some (.done (.ret ([], false))) := by
      unfold impl_ReadTile_l2
      simp only
      rw [sel_yes (by omega), eq, bnd_s]
      simp only
      rw [req_p (by simp only [List.length_singleton, List.length_nil]; omega), sel_t]
     rw [loop_done hd, bnd_s]
    ·
     rw [r2, bnd_s, sel_f, bnd_s, sel_t]
 ·
  refine fin ?_ ?_
  ·
   rcases rowOk_both s with ⟨L, _, _, _, r1, _⟩ | ⟨r1, _⟩
   ·
    rw [r1, bnd_s, sel_t, impl_within_eq, bnd_s, bnd_s, bnd_s, impl_within_eq, bnd_s, decide_eq_false hn, sel_f, bnd_s, sel_t]
   ·
    rw [r1, bnd_s, sel_f, bnd_s, bnd_s, impl_within_eq, bnd_s, decide_eq_false hn, sel_f, bnd_s, sel_t]
  ·
   rcases rowOk_both s with ⟨L, _, _, _, _, r1⟩ | ⟨_, r1⟩
   ·
    rw [r1, bnd_s, sel_t, spec_l01In_eq, bnd_s, spec_CondOk_eq, bnd_s, spec_l01In_eq, bnd_s, decide_eq_false hn]
    cases decide (0 ≤ a ∧ a ≤ (s.size : Int)) <;> cases condOk c <;> rfl
   ·
    rw [r1, bnd_s, sel_f, bnd_s, sel_t]
theorem PartShows_both (ref : Pic) (r : Rect) (p : Par) (t : Part) : ∃ x : Pic × Bool, impl_PartShows ref r p t = some x ∧ spec_PartShows ref r p t = some x ∧ (x.2 = true → tbI r (x.1.Wide, x.1.High, x.1.Dots)) := by
 unfold impl_PartShows spec_PartShows
 rw [impl_isTile_eq, bnd_s, spec_l16Side_eq, bnd_s]
 cases hw : sideB r.Wide with
 | false => exact ⟨_, rfl, rfl, fun h => by cases h⟩
 | true =>
  rw [sel_t, sel_t, impl_isTile_eq, bnd_s, spec_l16Side_eq, bnd_s]
  cases hh : sideB r.High with
  | false => exact ⟨_, rfl, rfl, fun h => by cases h⟩
  | true =>
   have sw := sideB_parts hw
   have sh := sideB_parts hh
   have mb : r.Wide / 8 * (r.High / 8) ≤ 8 * 8 := Int.mul_le_mul (by omega) (by omega) (by omega) (by omega)
   have m0 : 1 * 1 ≤ r.Wide / 8 * (r.High / 8) := Int.mul_le_mul (by omega) (by omega) (by omega) (by omega)
   rw [sel_t, Bool.not_true, bnd_s, sel_f, req_p (by omega), req_p (by omega), impl_ParOk_eq, bnd_s, tdiv_pos (a := r.Wide) (by omega), tdiv_pos (a := r.High) (by omega), wk (e := r.Wide / 8) (by omega) (by omega), wk (e := r.High / 8) (by omega) (by omega), wk (e := r.Wide / 8 * (r.High / 8)) (by omega) (by omega)]
   obtain ⟨l, b, e1, e2, h1, h2, h3⟩ := ReadTile_both t.Row 0 (r.Wide / 8 * (r.High / 8)) ⟨t.Key, t.Qp, p.Large, p.Exact⟩
   unfold spec_PartOk impl_CondFor spec_CondFor
   simp only [bnd_s, e1, e2, spec_ParOk_eq]
   cases hp : parOk p with
   | false => exact ⟨_, rfl, rfl, fun h => by cases h⟩
   | true =>
    rw [Bool.not_true, sel_f, req_p (by omega), req_p (by omega), sel_t, bnd_s]
    cases b with
    | false => exact ⟨_, rfl, rfl, fun h => by cases h⟩
    | true =>
     obtain ⟨x, t1, t2, t3⟩ := TileBack_both ref r ⟨t.Key, t.Qp, p.Large, p.Exact⟩ p.Confined l (by omega) (fun q hq => by have := h2 q hq; omega)
     rw [Bool.not_true, sel_f, bnd_s, Bool.not_true, sel_f, t1, t2, bnd_s]
     exact ⟨x, rfl, rfl, t3⟩
theorem FnExactPartShows {p0 : Pic} {p1 : Rect} {p2 : Par} {p3 : Part} (h0 : okPic p0) (h1 : okRect p1) (h2 : okPar p2) (h3 : okPart p3) : laws_FnExactPartShows p0 p1 p2 p3 = some true := by
 have hm : maxLen = 9223372036854775807 := rfl
 unfold laws_FnExactPartShows
 have d0 : p0.Dots.size ≤ maxLen := h0.2.2
 have d3 : p3.Row.size ≤ maxLen := h3.2.2
 rw [laws_szPic_eq p0 1048576 d0 (by omega) (by omega), bnd_s]
 by_cases hz : (1048576 : Int) < p0.Dots.size
 ·
  rw [if_pos hz, sel_yes (by omega)]
 rw [if_neg hz, sel_no (by omega)]
 unfold laws_szPart
 rw [wk (e := 1048576 - (p0.Dots.size : Int) - (p3.Row.size : Int)) (by omega) (by omega)]
 by_cases ht : 1048576 - (p0.Dots.size : Int) - (p3.Row.size : Int) < 0
 ·
  rw [sel_yes ht, bnd_s, sel_yes (by omega)]
 rw [sel_no ht, bnd_s, sel_no ht]
 obtain ⟨x, ei, es, _⟩ := PartShows_both p0 p1 p2 p3
 simp only [laws_toPic, laws_toRect, laws_toPar, laws_toPart, bnd_s, es, ei, laws_eqPic_self, sel_t, beq_self_eq_true, Bool.not_true, sel_f]
end Go.Proofs.YtpmljllgnocjkaaGreat.A.Pure
