/- The pure statement of the law FnExactSentSize: over numbers, texts and lists alone, what the law computes is true. Conditions: the sizes of what a machine holds. -/
import Derived.Test.YtplmeeookgefnaaDFnExactSentSize
namespace Go.Proofs.Ytplmeeookgefnaa.A.Pure
open Go Go.Proofs Go.Proofs.YtplmeeookgefnaaAL Go.RowKit
set_option linter.unusedVariables false
set_option linter.unusedSimpArgs false
set_option maxHeartbeats 1000000
theorem bnd_s {α β : Type} (a : α) (f : α → Option β) : bnd (some a) f = f a := rfl
theorem bnd_e {α β : Type} {x : Option α} {a : α} {f : α → Option β} (h : x = some a) : bnd x f = f a := by subst h; rfl
theorem sel_t {β : Type} (x y : β) : sel true x y = x := rfl
theorem sel_f {β : Type} (x y : β) : sel false x y = y := rfl
theorem sel_n {β : Type} (b : Bool) (x y : β) : sel (!b) x y = sel b y x := by cases b <;> rfl
theorem sel_and (b x : Bool) : sel b (some x) (some false) = some (b && x) := by cases b <;> rfl
theorem sel_or (b x : Bool) : sel b (some true) (some x) = some (b || x) := by cases b <;> rfl
theorem sel_nor (b x : Bool) : sel b (some x) (some true) = some (!b || x) := by cases b <;> rfl
theorem sel_d {β : Type} (p : Prop) [Decidable p] (x y : β) : sel (decide p) x y = if p then x else y := by
  by_cases h : p <;> simp [h, sel]
theorem sel_pos {β : Type} {b : Bool} {x y : β} (h : b = true) : sel b x y = x := by subst h; rfl
theorem sel_neg {β : Type} {b : Bool} {x y : β} (h : b = false) : sel b x y = y := by subst h; rfl
theorem sel_yes {β : Type} {p : Prop} [Decidable p] {x y : β} (h : p) : sel (decide p) x y = x := by simp [h, sel]
theorem sel_no {β : Type} {p : Prop} [Decidable p] {x y : β} (h : ¬ p) : sel (decide p) x y = y := by simp [h, sel]
theorem req_p {β : Type} {c : Prop} [Decidable c] {k : Option β} (h : c) : req c k = k := if_pos h
theorem wk {e : Int} (h1 : -9223372036854775808 ≤ e) (h2 : e ≤ 9223372036854775807) : wrapK .i64 e = e := by
  show wrap64 e = e
  unfold wrap64; omega
theorem w8 {e : Int} (h1 : 0 ≤ e) (h2 : e ≤ 255) : wrapK .u8 e = e := by
  show IntKind.wrap .u8 e = e
  simp [IntKind.wrap, IntKind.signed, IntKind.bits]; omega
theorem tmod_pos {a b : Int} (h : 0 ≤ a) : Int.tmod a b = a % b := Int.tmod_eq_emod_of_nonneg h
theorem tdiv_pos {a b : Int} (h : 0 ≤ a) : Int.tdiv a b = a / b := Int.tdiv_eq_ediv_of_nonneg h
theorem down_to {P : Nat → Prop} (n : Nat) (h0 : P n) (hs : ∀ i, i < n → P (i + 1) → P i) : ∀ i, i ≤ n → P i := by
  intro i hi
  obtain ⟨k, rfl⟩ : ∃ k, n = i + k := ⟨n - i, by omega⟩
  clear hi
  induction k generalizing i with
  | zero => exact h0
  | succ k ih =>
    refine hs i (by omega) ?_
    exact ih (i + 1) (by rw [show i + 1 + k = i + (k + 1) by omega]; exact h0) (fun j hj => hs j (by omega))
theorem lgo {V O : Type} {f : V → Option (Lp V O)} {x y : V} {r : Option O} (h : f x = some (.go y)) (k : loop f y = r) : loop f x = r := by rw [loop_go h]; exact k
theorem ldone {V O : Type} {f : V → Option (Lp V O)} {x : V} {o : O} (h : f x = some (.done o)) : loop f x = some o := loop_done h
theorem getD_at {α : Type} (l : List α) (i : Nat) (h : i < l.length) (d : α) : l.getD i d = l[i] := by
  simp [List.getD_eq_getElem?_getD, List.getElem?_eq_getElem h]
theorem impl_within_eq (a b c : Int) : impl_within a b c = some (decide (b ≤ a ∧ a ≤ c)) := by
  unfold impl_within
  by_cases h : b ≤ a <;> simp [bnd, sel, h]
theorem spec_l01In_eq (a b c : Int) : spec_l01In a b c = some (decide (b ≤ a ∧ a ≤ c)) := by
  unfold spec_l01In
  by_cases h : b ≤ a <;> simp [bnd, sel, h]
theorem set_mid {α : Type} (a : List α) (x y : α) (b : List α) : (a ++ x :: b).set a.length y = a ++ y :: b := by
  induction a with
  | nil => rfl
  | cons z a ih => simp only [List.cons_append, List.length_cons, List.set_cons_succ, ih]
theorem getD_mid {α : Type} (a : List α) (x d : α) (b : List α) : (a ++ x :: b).getD a.length d = x := by
  induction a with
  | nil => rfl
  | cons z a ih => simp
theorem fill_loop {α β : Type} (l : List α) (g : α → β) (d : α) (e : β) {f : (Int × List β) → Option (Lp (Int × List β) (List β))}
    (h : ∀ (i : Nat) (o : List β), i < l.length → o.length = l.length → f ((i : Int), o) = some (.go (((i + 1 : Nat) : Int), o.set i (g (l.getD i d))))) (h0 : ∀ o, f ((l.length : Int), o) = some (.done o)) : loop f (0, List.replicate l.length e) = some (l.map g) := by
  have key : ∀ (r a : List α), l = a ++ r → loop f ((a.length : Int), a.map g ++ List.replicate r.length e) = some (l.map g) := by
    intro r
    induction r with
    | nil =>
      intro a ha
      rw [List.append_nil] at ha
      subst ha
      rw [loop_done (h0 _)]; simp
    | cons x r ih =>
      intro a ha
      have hlen : a.length < l.length := by rw [ha]; simp
      rw [loop_go (h a.length _ hlen (by rw [ha]; simp))]
      have e1 : l.getD a.length d = x := by rw [ha]; exact getD_mid a x d r
      have e2 : (a.map g ++ List.replicate (x :: r).length e).set a.length (g x) = (a ++ [x]).map g ++ List.replicate r.length e := by
        have := set_mid (a.map g) e (g x) (List.replicate r.length e)
        rw [List.length_map] at this
        rw [List.length_cons, List.replicate_succ, this]
        simp
      rw [e1, e2]
      have := ih (a ++ [x]) (by rw [ha]; simp)
      rw [List.length_append, List.length_singleton] at this
      exact this
  exact key l [] rfl
theorem self_loop {f : Int → Option (Lp Int (Ou Unit Bool))} (n : Nat) (h : ∀ i : Nat, i < n → f i = some (.go ((i + 1 : Nat) : Int))) (h0 : f n = some (.done (.out ()))) : loop f 0 = some (.out ()) :=
  down_to (P := fun i => loop f (i : Int) = some (.out ())) n (loop_done h0) (fun i hi ih => by rw [loop_go (h i hi)]; exact ih) 0 (by omega)
theorem cut_all {α : Type} (l : List α) (k : Nat) : (l.drop k).take (l.length - k) = l.drop k := List.take_of_length_le (by rw [List.length_drop]; omega)
theorem laws_eqIntS_self (l : List Int) (hl : l.length ≤ 9223372036854775806) : laws_eqIntS l l = some true := by
  unfold laws_eqIntS
  rw [sel_neg (by simp), self_loop l.length (f := laws_eqIntS_l2 l l) (by
    intro i hi
    unfold laws_eqIntS_l2
    rw [sel_yes (by omega), req_p (by omega), req_p (by omega), sel_neg (by simp), wk (by omega) (by omega)]
    rfl) (by unfold laws_eqIntS_l2; rw [sel_no (by omega)])]
  rfl
theorem str_append (a b : List Int) : strOfNums a ++ strOfNums b = strOfNums (a ++ b) := by
  unfold strOfNums
  rw [List.map_append]
  apply ByteArray.ext
  simp
theorem str_nil : (⟨#[]⟩ : ByteArray) = strOfNums [] := rfl
def byteL (l : List Int) : Prop := ∀ x ∈ l, 0 ≤ x ∧ x ≤ 255
theorem nums_str (l : List Int) (h : byteL l) : numsOf (strOfNums l) = l := by
  unfold numsOf
  rw [strOfNums_data, List.map_map]
  have : ∀ x ∈ l, ((fun b : UInt8 => (b.toNat : Int)) ∘ fun n : Int => UInt8.ofNat n.toNat) x = x := by
    intro x hx
    have := h x hx
    simp only [Function.comp_apply, UInt8.toNat_ofNat']
    omega
  rw [List.map_congr_left this, List.map_id']
theorem and_1 (y : Int) : IntKind.wrap .i64 (BitVec.ofInt (IntKind.bits .i64) y &&& BitVec.ofInt (IntKind.bits .i64) 1).toNat = y % 2 := by
  have h : (BitVec.ofInt 64 y &&& BitVec.ofInt 64 1).toNat = (y % 2).toNat := by
    rw [BitVec.toNat_and]
    have e1 : (BitVec.ofInt 64 1).toNat = 1 := by decide
    rw [e1, Nat.and_one_is_mod, BitVec.toNat_ofInt]
    omega
  show IntKind.wrap .i64 ((BitVec.ofInt 64 y &&& BitVec.ofInt 64 1).toNat : Int) = _
  rw [h, ← wrapK_eq, wk (by omega) (by omega)]
  omega
def fixL : Nat → Int → List Int
  | 0, _ => []
  | w + 1, n => fixL w (n / 2) ++ [48 + n % 2]
def bitL (l : List Int) : Prop := ∀ x ∈ l, x = 48 ∨ x = 49
theorem bitL_append {a b : List Int} (ha : bitL a) (hb : bitL b) : bitL (a ++ b) := fun x hx => (List.mem_append.1 hx).elim (ha x) (hb x)
theorem bitL_rep (n : Nat) : bitL (List.replicate n 48) := fun x hx => .inl (List.eq_of_mem_replicate hx)
theorem bitL_byte {l : List Int} (h : bitL l) : byteL l := fun x hx => by rcases h x hx with e | e <;> omega
theorem bitL_nil : bitL [] := fun x hx => by simp at hx
theorem signs_loop (w : Nat) : ∀ (k : Nat) (n : Int) (s : List Int), 0 ≤ n → n ≤ 9223372036854775807 → k + s.length ≤ 100000 → loop impl_signs_l2 (n, (k : Int) - 1, List.replicate k 0 ++ s) = some (fixL k n ++ s) := by
  intro k
  induction k with
  | zero =>
    intro n s h0 h1 hl
    refine ldone ?_
    unfold impl_signs_l2
    simp only
    rw [sel_no (by omega)]
    simp [fixL]
  | succ k ih =>
    intro n s h0 h1 hl
    have e1 : List.replicate (k + 1) (0 : Int) ++ s = List.replicate k 0 ++ 0 :: s := by rw [List.replicate_succ', List.append_assoc]; rfl
    have e2 := set_mid (List.replicate k (0 : Int)) 0 (48 + n % 2) s
    rw [List.length_replicate] at e2
    refine lgo (y := (n / 2, (k : Int) - 1, List.replicate k 0 ++ (48 + n % 2) :: s)) ?_ ?_
    · unfold impl_signs_l2
      have e3 : (((k + 1 : Nat) : Int) - 1).toNat = k := by omega
      simp only [e1, e3]
      rw [sel_yes (by omega), req_p (by simp; omega), req_p (by simp), req_p (by decide), and_1, wk (e := 48 + n % 2) (by omega) (by omega), w8 (by omega) (by omega), e2, wk (by omega) (by omega)]
      rw [show ((k + 1 : Nat) : Int) - 1 - 1 = (k : Int) - 1 by omega]
      rfl
    · rw [ih (n / 2) ((48 + n % 2) :: s) (by omega) (by omega) (by simp; omega), fixL, List.append_assoc]; rfl
theorem impl_signs_eq (n : Int) (w : Nat) (h0 : 0 ≤ n) (h1 : n ≤ 9223372036854775807) (hw : w ≤ 1000) : impl_signs n (w : Int) = some (strOfNums (fixL w n)) := by
  unfold impl_signs
  rw [req_p (by omega), wk (by omega) (by omega), Int.toNat_natCast]
  have := signs_loop w w n [] h0 h1 (by simp; omega)
  rw [List.append_nil, List.append_nil] at this
  rw [this, bnd_s]
def figs (m : Nat) : Nat := if h : m = 0 then 0 else figs (m / 2) + 1
termination_by m
decreasing_by omega
def binL (m : Nat) : List Int := if h : m = 0 then [] else binL (m / 2) ++ [48 + ((m % 2 : Nat) : Int)]
termination_by m
decreasing_by omega
theorem binL_len (m : Nat) : (binL m).length = figs m := by
  induction m using Nat.strongRecOn with
  | _ m ih =>
    rw [binL, figs]
    by_cases h : m = 0
    · rw [dif_pos h, dif_pos h]; rfl
    · rw [dif_neg h, dif_neg h, List.length_append, ih (m / 2) (by omega)]; rfl
theorem figs_le {m j : Nat} (h : m < 2 ^ j) : figs m ≤ j := by
  induction j generalizing m with
  | zero => rw [figs, dif_pos (by simp at h; omega)]; omega
  | succ j ih =>
    rw [figs]
    split
    · omega
    · have := ih (m := m / 2) (by rw [Nat.pow_succ] at h; omega)
      omega
theorem figs_pos {m : Nat} (h : 0 < m) : 1 ≤ figs m := by rw [figs, dif_neg (by omega)]; omega
theorem binL_bit (m : Nat) : bitL (binL m) := by
  induction m using Nat.strongRecOn with
  | _ m ih =>
    rw [binL]
    by_cases h : m = 0
    · rw [dif_pos h]; exact bitL_nil
    · rw [dif_neg h]; exact bitL_append (ih (m / 2) (by omega)) (fun x hx => by rw [List.mem_singleton.1 hx]; omega)
theorem fixL_bin (z m : Nat) : fixL (figs m + z) m = List.replicate z 48 ++ binL m := by
  induction m using Nat.strongRecOn with
  | _ m ih =>
    rw [binL, figs]
    by_cases h : m = 0
    · rw [dif_pos h, dif_pos h, h, List.append_nil, Nat.zero_add]
      clear ih h
      induction z with
      | zero => rfl
      | succ z iz => rw [fixL, show ((0 : Nat) : Int) / 2 = ((0 : Nat) : Int) from rfl, iz, List.replicate_succ']; rfl
    · rw [dif_neg h, dif_neg h, show figs (m / 2) + 1 + z = figs (m / 2) + z + 1 by omega, fixL, show (m : Int) / 2 = ((m / 2 : Nat) : Int) by omega, ih (m / 2) (by omega), List.append_assoc, show (m : Int) % 2 = ((m % 2 : Nat) : Int) by omega]
def ueL (n : Nat) : List Int := List.replicate (figs (n + 1) - 1) 48 ++ binL (n + 1)
theorem ueL_bit (n : Nat) : bitL (ueL n) := bitL_append (bitL_rep _) (binL_bit _)
theorem ueL_len (n : Nat) (h : n ≤ 1000000) : (ueL n).length ≤ 39 ∧ 1 ≤ (ueL n).length := by
  unfold ueL
  rw [List.length_append, List.length_replicate, binL_len]
  have := figs_le (m := n + 1) (j := 20) (by omega)
  have := figs_pos (m := n + 1) (by omega)
  omega
theorem figuresOf_loop : ∀ (m : Nat) (k : Int), 0 ≤ k → k ≤ 1000 → m ≤ 9223372036854775807 → loop impl_figuresOf_l2 ((m : Int), k) = some (k + figs m) := by
  have main : ∀ (j m : Nat) (k : Int), m < 2 ^ j → j ≤ 63 → 0 ≤ k → k + j ≤ 2000 → loop impl_figuresOf_l2 ((m : Int), k) = some (k + figs m) := by
    intro j
    induction j with
    | zero =>
      intro m k hm _ _ _
      have : m = 0 := by simp at hm; omega
      subst this
      refine ldone ?_
      unfold impl_figuresOf_l2
      simp only
      rw [sel_no (by omega), figs, dif_pos rfl]; simp
    | succ j ih =>
      intro m k hm hj h0 h1
      by_cases h : m = 0
      · subst h
        refine ldone ?_
        unfold impl_figuresOf_l2
        simp only
        rw [sel_no (by omega), figs, dif_pos rfl]; simp
      · refine lgo (y := (((m / 2 : Nat) : Int), k + 1)) ?_ ?_
        · unfold impl_figuresOf_l2
          simp only
          rw [sel_yes (by omega), req_p (by decide), wk (by omega) (by omega)]
          show some (Lp.go ((m : Int) / 2, k + 1)) = _
          congr 3
        · rw [ih (m / 2) (k + 1) (by rw [Nat.pow_succ] at hm; omega) (by omega) (by omega) (by omega), figs.eq_def m, dif_neg h]
          congr 1; omega
  intro m k h0 h1 hm
  exact main 63 m k (by omega) (by omega) h0 (by omega)
theorem impl_ue_eq (n : Nat) (h : n ≤ 1000000) : impl_ue (n : Int) = some (strOfNums (ueL n)) := by
  unfold impl_ue impl_figuresOf
  rw [wk (e := (n : Int) + 1) (by omega) (by omega)]
  have := figuresOf_loop (n + 1) 0 (by omega) (by omega) (by omega)
  rw [show ((n + 1 : Nat) : Int) = (n : Int) + 1 by omega, Int.zero_add] at this
  rw [this, bnd_s, bnd_s]
  have h1 := figs_le (m := n + 1) (j := 20) (by omega)
  have h2 := figs_pos (m := n + 1) (by omega)
  rw [wk (e := 2 * (figs (n + 1) : Int)) (by omega) (by omega), wk (by omega) (by omega), show 2 * (figs (n + 1) : Int) - 1 = ((figs (n + 1) + (figs (n + 1) - 1) : Nat) : Int) by omega, impl_signs_eq _ _ (by omega) (by omega) (by omega), bnd_s,
    show (n : Int) + 1 = ((n + 1 : Nat) : Int) by omega, fixL_bin]
  rfl
theorem spec_l01Long_eq (n : Nat) (x : Int) (h : n ≤ 1000000000) : spec_l01Long (n : Int) x = some (strOfNums (List.replicate n x)) := by
  unfold spec_l01Long
  rw [req_p (by omega), Int.toNat_natCast]
  have key : ∀ (k a : Nat), k + a = n → loop (spec_l01Long_l2 (n : Int) x) ((a : Int), List.replicate a x ++ List.replicate k 0) = some (List.replicate n x) := by
    intro k
    induction k with
    | zero =>
      intro a ha
      refine ldone ?_
      unfold spec_l01Long_l2
      simp only
      rw [sel_no (by omega)]
      simp; omega
    | succ k ih =>
      intro a ha
      have e2 := set_mid (List.replicate a x) 0 x (List.replicate k 0)
      rw [List.length_replicate] at e2
      refine lgo (y := (((a + 1 : Nat) : Int), List.replicate (a + 1) x ++ List.replicate k 0)) ?_ (ih (a + 1) (by omega))
      unfold spec_l01Long_l2
      simp only [List.replicate_succ (n := k), Int.toNat_natCast]
      rw [sel_yes (by omega), req_p (by simp; omega), req_p (by simp), e2, wk (by omega) (by omega), List.replicate_succ' (n := a), List.append_assoc]
      rfl
  have := key n 0 rfl
  rw [List.replicate_zero, List.nil_append] at this
  exact bnd_e this
theorem spec_l03Ue_eq (n : Nat) (h : n ≤ 1000000) : spec_l03Ue (n : Int) = some (strOfNums (ueL n)) := by
  have main : ∀ (j m : Nat) (s : List Int), m < 2 ^ j → j ≤ 63 → s.length + j ≤ 1000 → loop spec_l03Ue_l2 ((m : Int), strOfNums s) = some (strOfNums (binL m ++ s)) := by
    intro j
    induction j with
    | zero =>
      intro m s hm _ _
      have : m = 0 := by simp at hm; omega
      subst this
      refine ldone ?_
      unfold spec_l03Ue_l2
      simp only
      rw [sel_no (by omega), binL, dif_pos rfl]; rfl
    | succ j ih =>
      intro m s hm hj hl
      by_cases h : m = 0
      · subst h
        refine ldone ?_
        unfold spec_l03Ue_l2
        simp only
        rw [sel_no (by omega), binL, dif_pos rfl]; rfl
      · have hlt : (m : Int) < 2 ^ (j + 1) := by exact_mod_cast hm
        have hle : (2 : Int) ^ (j + 1) ≤ 2 ^ 63 := by
          have := Nat.pow_le_pow_right (n := 2) (by omega) hj
          exact_mod_cast this
        have hbd : (m : Int) < 9223372036854775808 := Int.lt_of_lt_of_le hlt (by simpa using hle)
        refine lgo (y := (((m / 2 : Nat) : Int), strOfNums ((48 + ((m % 2 : Nat) : Int)) :: s))) ?_ ?_
        · unfold spec_l03Ue_l2
          simp only
          rw [sel_yes (by omega), req_p (by decide), tmod_pos (by omega), tdiv_pos (by omega), wk (e := 48 + (m : Int) % 2) (by omega) (by omega), w8 (by omega) (by omega), req_p (by simp only [strOfNums_size, List.length_singleton]; omega), req_p (by decide), wk (by omega) (by omega), str_append]
          congr 3
        · rw [ih (m / 2) _ (by rw [Nat.pow_succ] at hm; omega) (by omega) (by simp; omega)]
          conv => rhs; rw [binL, dif_neg h]
          rw [List.append_assoc]; rfl
  unfold spec_l03Ue
  have h1 := figs_le (m := n + 1) (j := 20) (by omega)
  have h2 := figs_pos (m := n + 1) (by omega)
  rw [wk (e := (n : Int) + 1) (by omega) (by omega), str_nil, show (n : Int) + 1 = ((n + 1 : Nat) : Int) by omega, main 63 (n + 1) [] (by omega) (by omega) (by simp), bnd_s, List.append_nil, strOfNums_size, binL_len, wk (by omega) (by omega), show (figs (n + 1) : Int) - 1 = ((figs (n + 1) - 1 : Nat) : Int) by omega, spec_l01Long_eq _ _ (by omega), bnd_s,
    req_p (by simp only [strOfNums_size, List.length_replicate]; omega), str_append]
  rfl
theorem laws_toIntS_eq (l : List Int) (hl : l.length ≤ 1048576) : laws_toIntS l = some l := by
  unfold laws_toIntS
  rw [req_p (by omega), Int.toNat_natCast]
  have := fill_loop l (fun p : Int => p) 0 (0 : Int) (f := laws_toIntS_l2 l) (by
    intro i o hi ho
    unfold laws_toIntS_l2
    simp only
    rw [sel_yes (by omega), req_p (by omega), req_p (by omega), req_p (by omega), wk (by omega) (by omega)]
    rfl) (by
    intro o; unfold laws_toIntS_l2; simp only; rw [sel_no (by omega)])
  rw [this, bnd_s, List.map_id']
theorem laws_szIntS_eq (l : List Int) (m : Int) (hl : l.length ≤ maxLen) (h0 : 0 ≤ m) (h1 : m ≤ 1048576) : laws_szIntS l m = some (if m < l.length then -1 else m - l.length) := by
  have hm : maxLen = 9223372036854775807 := rfl
  unfold laws_szIntS
  rw [wk (by omega) (by omega), sel_d]
  by_cases h : m < l.length
  · rw [if_pos h, if_pos (by omega)]
  · rw [if_neg h, if_neg (by omega)]
def foldN (n : Int) : Nat := if n > 0 then (2 * n - 1).toNat else (-2 * n).toNat
theorem impl_FoldSe_eq (n : Int) (h : -500000 ≤ n ∧ n ≤ 500000) : impl_FoldSe n = some ((foldN n : Int), true) := by
  unfold impl_FoldSe foldN
  rw [impl_within_eq, bnd_s, sel_n, sel_yes h, sel_d, wk (e := 2 * n) (by omega) (by omega), wk (by omega) (by omega), wk (by omega) (by omega)]
  split
  · rw [Int.toNat_of_nonneg (by omega)]
  · rw [Int.toNat_of_nonneg (by omega)]
theorem spec_FoldSe_eq (n : Int) (h : -500000 ≤ n ∧ n ≤ 500000) : spec_FoldSe n = some ((foldN n : Int), true) := by
  unfold spec_FoldSe foldN
  rw [spec_l01In_eq, bnd_s, sel_n, sel_yes h, sel_d, wk (e := 2 * n) (by omega) (by omega), wk (by omega) (by omega), wk (by omega) (by omega)]
  split
  · rw [Int.toNat_of_nonneg (by omega)]
  · rw [Int.toNat_of_nonneg (by omega)]
theorem foldN_le (n : Int) (h : -500000 ≤ n ∧ n ≤ 500000) : foldN n ≤ 1000000 := by unfold foldN; split <;> omega
def seL (n : Int) : List Int := ueL (foldN n)
theorem seL_len (n : Int) (h : -500000 ≤ n ∧ n ≤ 500000) : (seL n).length ≤ 39 := (ueL_len _ (foldN_le n h)).1
theorem spec_l03Se_eq (n : Int) (h : -500000 ≤ n ∧ n ≤ 500000) : spec_l03Se n = some (strOfNums (seL n)) := by
  unfold spec_l03Se
  rw [spec_FoldSe_eq n h, bnd_s, spec_l03Ue_eq _ (foldN_le n h), bnd_s]; rfl
theorem impl_SeRow_eq (n : Int) (h : -500000 ≤ n ∧ n ≤ 500000) : impl_SeRow n = some (strOfNums (seL n), true) := by
  have := foldN_le n h
  unfold impl_SeRow
  rw [impl_FoldSe_eq n h, bnd_s, sel_n, sel_t]
  unfold impl_UeRow
  rw [impl_within_eq, bnd_s, sel_n, sel_yes (by omega), impl_ue_eq _ this, bnd_s, bnd_s]; rfl
def lvIn (x : Int) : Bool := decide (-5000 ≤ x ∧ x ≤ 5000)
theorem lvIn_iff {x : Int} : lvIn x = true ↔ -5000 ≤ x ∧ x ≤ 5000 := by simp [lvIn]
def nz : List Int → Nat
  | [] => 0
  | x :: r => if x = 0 then nz r else nz r + 1
theorem nz_le : ∀ l : List Int, nz l ≤ l.length
  | [] => by simp [nz]
  | x :: r => by rw [nz, List.length_cons]; have := nz_le r; split <;> omega
def runsB : Nat → List Int → List Int
  | _, [] => []
  | g, x :: r => if x = 0 then runsB (g + 1) r else ueL g ++ seL x ++ runsB 0 r
def runsL (l : List Int) : List Int := ueL (nz l) ++ runsB 0 l
theorem runsB_bit : ∀ (l : List Int) (g : Nat), bitL (runsB g l)
  | [], _ => bitL_nil
  | x :: r, g => by
    rw [runsB]
    split
    · exact runsB_bit r _
    · exact bitL_append (bitL_append (ueL_bit _) (ueL_bit _)) (runsB_bit r _)
theorem runsB_len : ∀ (l : List Int) (g : Nat), l.all lvIn = true → g + l.length ≤ 1000 → (runsB g l).length ≤ 78 * l.length
  | [], _, _, _ => by simp [runsB]
  | x :: r, g, h, hg => by
    rw [List.all_cons, Bool.and_eq_true, lvIn_iff] at h
    rw [List.length_cons] at hg ⊢
    rw [runsB]
    split
    · have := runsB_len r (g + 1) h.2 (by omega); omega
    · have := runsB_len r 0 h.2 (by omega)
      have a := ueL_len g (by omega)
      have b := seL_len x (by omega)
      simp only [List.length_append]; omega
theorem runsL_bit (l : List Int) : bitL (runsL l) := bitL_append (ueL_bit _) (runsB_bit _ _)
theorem runsL_len (l : List Int) (h : l.all lvIn = true) (hl : l.length ≤ 64) : (runsL l).length ≤ 39 + 78 * l.length := by
  have := runsB_len l 0 h (by omega)
  have := nz_le l
  have := ueL_len (nz l) (by omega)
  unfold runsL; rw [List.length_append]; omega
theorem spec_l11Runs_eq (l : List Int) (h : l.all lvIn = true) (hl : l.length ≤ 64) : spec_l11Runs l = some (strOfNums (runsL l)) := by
  unfold spec_l11Runs
  have key : ∀ (r a : List Int) (n g : Nat) (s : List Int), l = a ++ r → n ≤ a.length → g ≤ a.length → s.length ≤ 78 * a.length → loop (spec_l11Runs_l2 l) ((n : Int), (g : Int), strOfNums s, (a.length : Int)) = some (((n + nz r : Nat) : Int), strOfNums (s ++ runsB g r)) := by
    intro r
    induction r with
    | nil =>
      intro a n g s ha _ _ _
      rw [List.append_nil] at ha
      refine ldone ?_
      unfold spec_l11Runs_l2
      simp only
      rw [sel_no (by rw [ha]; omega), nz, runsB, List.append_nil]; rfl
    | cons x r ih =>
      intro a n g s ha hn hg hs
      have hlen : a.length < l.length := by rw [ha]; simp
      have hx : l.getD a.length 0 = x := by rw [ha]; exact getD_mid a x _ r
      have hxi : -5000 ≤ x ∧ x ≤ 5000 := lvIn_iff.1 (List.all_eq_true.1 h x (by rw [ha]; simp))
      by_cases e : x = 0
      · have hnext := ih (a ++ [x]) n (g + 1) s (by rw [ha]; simp) (by simp; omega) (by simp; omega) (by simp; omega)
        rw [List.length_append, List.length_singleton] at hnext
        rw [nz, runsB, if_pos e, if_pos e, ← hnext]
        refine loop_go ?_
        unfold spec_l11Runs_l2
        simp only [Int.toNat_natCast, hx]
        rw [sel_yes (by omega), req_p (by omega), sel_pos (by simpa using e), bnd_s, wk (by omega) (by omega), wk (by omega) (by omega)]
        rfl
      · have u1 := ueL_len g (by omega)
        have u2 := seL_len x (by omega)
        have hnext := ih (a ++ [x]) (n + 1) 0 (s ++ ueL g ++ seL x) (by rw [ha]; simp) (by simp; omega) (by omega) (by simp only [List.length_append, List.length_singleton]; omega)
        rw [List.length_append, List.length_singleton] at hnext
        rw [nz, runsB, if_neg e, if_neg e, show n + (nz r + 1) = n + 1 + nz r by omega, ← List.append_assoc, ← List.append_assoc, ← hnext]
        refine loop_go ?_
        unfold spec_l11Runs_l2
        simp only [Int.toNat_natCast, hx]
        rw [sel_yes (by omega), req_p (by omega), sel_neg (by simpa using e), spec_l03Ue_eq g (by omega), bnd_s, req_p (by simp only [strOfNums_size]; omega), req_p (by omega), spec_l03Se_eq x (by omega), bnd_s, str_append, req_p (by simp only [strOfNums_size, List.length_append]; omega), str_append, bnd_s, wk (by omega) (by omega), wk (by omega) (by omega)]
        rfl
  have := key l [] 0 0 [] rfl (by omega) (by omega) (by simp)
  refine (bnd_e this).trans ?_
  have hz := nz_le l
  have u := ueL_len (nz l) (by omega)
  have b := runsB_len l 0 h (by omega)
  simp only [Nat.zero_add, List.nil_append]
  rw [spec_l03Ue_eq _ (by omega), bnd_s, req_p (by simp only [strOfNums_size]; omega), str_append]
  rfl
theorem impl_runs_eq (l : List Int) (h : l.all lvIn = true) (hl : l.length ≤ 64) : impl_runs l = some (runsL l) := by
  have hm : maxLen = 9223372036854775807 := rfl
  unfold impl_runs
  have k1 : ∀ (r a : List Int) (n : Nat), l = a ++ r → n ≤ a.length → loop (impl_runs_l2 l) ((n : Int), (a.length : Int)) = some ((n + nz r : Nat) : Int) := by
    intro r
    induction r with
    | nil =>
      intro a n ha _
      rw [List.append_nil] at ha
      refine ldone ?_
      unfold impl_runs_l2
      simp only
      rw [sel_no (by rw [ha]; omega)]; rfl
    | cons x r ih =>
      intro a n ha hn
      have hlen : a.length < l.length := by rw [ha]; simp
      have hx : l.getD a.length 0 = x := by rw [ha]; exact getD_mid a x _ r
      by_cases e : x = 0
      · have hnext := ih (a ++ [x]) n (by rw [ha]; simp) (by simp; omega)
        rw [List.length_append, List.length_singleton] at hnext
        rw [nz, if_pos e, ← hnext]
        refine loop_go ?_
        unfold impl_runs_l2
        simp only [Int.toNat_natCast, hx]
        rw [sel_yes (by omega), req_p (by omega), sel_neg (by simpa using e), bnd_s, wk (by omega) (by omega)]
        rfl
      · have hnext := ih (a ++ [x]) (n + 1) (by rw [ha]; simp) (by simp; omega)
        rw [List.length_append, List.length_singleton] at hnext
        rw [nz, if_neg e, show n + (nz r + 1) = n + 1 + nz r by omega, ← hnext]
        refine loop_go ?_
        unfold impl_runs_l2
        simp only [Int.toNat_natCast, hx]
        rw [sel_yes (by omega), req_p (by omega), sel_pos (by simpa using e), bnd_s, wk (by omega) (by omega), wk (by omega) (by omega)]
        rfl
  refine (bnd_e (k1 l [] 0 rfl (by omega))).trans ?_
  have hz := nz_le l
  have u := ueL_len (nz l) (by omega)
  simp only [Nat.zero_add]
  rw [impl_ue_eq _ (by omega), bnd_s, nums_str _ (bitL_byte (ueL_bit _)), req_p (by simp only [List.length_nil]; omega), List.nil_append]
  have key : ∀ (r a : List Int) (g : Nat) (s : List Int), l = a ++ r → g ≤ a.length → s.length ≤ 39 + 78 * a.length → loop (impl_runs_l4 l) ((g : Int), (a.length : Int), s) = some (s ++ runsB g r) := by
    intro r
    induction r with
    | nil =>
      intro a g s ha _ _
      rw [List.append_nil] at ha
      refine ldone ?_
      unfold impl_runs_l4
      simp only
      rw [sel_no (by rw [ha]; omega), runsB, List.append_nil]
    | cons x r ih =>
      intro a g s ha hg hs
      have hlen : a.length < l.length := by rw [ha]; simp
      have hx : l.getD a.length 0 = x := by rw [ha]; exact getD_mid a x _ r
      have hxi : -5000 ≤ x ∧ x ≤ 5000 := lvIn_iff.1 (List.all_eq_true.1 h x (by rw [ha]; simp))
      by_cases e : x = 0
      · have hnext := ih (a ++ [x]) (g + 1) s (by rw [ha]; simp) (by simp; omega) (by simp; omega)
        rw [List.length_append, List.length_singleton] at hnext
        rw [runsB, if_pos e, ← hnext]
        refine loop_go ?_
        unfold impl_runs_l4
        simp only [Int.toNat_natCast, hx]
        rw [sel_yes (by omega), req_p (by omega), sel_pos (by simpa using e), bnd_s, wk (by omega) (by omega), wk (by omega) (by omega)]
        rfl
      · have u1 := ueL_len g (by omega)
        have u2 := seL_len x (by omega)
        have hnext := ih (a ++ [x]) 0 (s ++ ueL g ++ seL x) (by rw [ha]; simp) (by omega) (by simp only [List.length_append, List.length_singleton]; omega)
        rw [List.length_append, List.length_singleton] at hnext
        rw [runsB, if_neg e, ← List.append_assoc, ← List.append_assoc, ← hnext]
        refine loop_go ?_
        unfold impl_runs_l4
        simp only [Int.toNat_natCast, hx]
        rw [sel_yes (by omega), req_p (by omega), sel_neg (by simpa using e), impl_FoldSe_eq x (by omega), bnd_s, impl_ue_eq g (by omega), bnd_s, nums_str _ (bitL_byte (ueL_bit _)), req_p (by omega), impl_ue_eq _ (foldN_le x (by omega)), bnd_s, nums_str _ (bitL_byte (ueL_bit _)), req_p (by rw [List.length_append]; have : (seL x).length = (ueL (foldN x)).length := rfl; omega), bnd_s, wk (by omega) (by omega)]
        rfl
  exact bnd_e (key l [] 0 (ueL (nz l)) rfl (by omega) (by simp; omega))
def lv64 (l : List Int) : Bool := decide (l.length = 64) && l.all lvIn
theorem all_loop (p : Int → Bool) (l : List Int) (f : Int → Option (Lp Int (Ou Unit Bool))) (h : ∀ i : Nat, i < l.length → f (i : Int) = sel (!(p (l.getD i 0))) (some (.done (.ret false))) (some (.go ((i + 1 : Nat) : Int)))) (h0 : f (l.length : Int) = some (.done (.out ()))) :
    loop f 0 = some (if l.all p = true then .out () else .ret false) := by
  have key : ∀ (r a : List Int), l = a ++ r → loop f (a.length : Int) = some (if r.all p = true then .out () else .ret false) := by
    intro r
    induction r with
    | nil => intro a ha; rw [List.append_nil] at ha; rw [← ha, loop_done h0]; rfl
    | cons x r ih =>
      intro a ha
      have hlen : a.length < l.length := by rw [ha]; simp
      have hx : l.getD a.length 0 = x := by rw [ha]; exact getD_mid a x _ r
      have hs := h a.length hlen
      rw [hx] at hs
      cases e : p x with
      | true =>
        rw [e] at hs
        have := ih (a ++ [x]) (by rw [ha]; simp)
        rw [List.length_append, List.length_singleton] at this
        rw [loop_go hs, this, List.all_cons, e, Bool.true_and]
      | false => rw [e] at hs; rw [loop_done hs, List.all_cons, e, Bool.false_and]; rfl
  exact key l [] rfl
theorem spec_l09All_lv (l : List Int) : spec_l09All l 64 5000 = some (lv64 l) := by
  unfold spec_l09All lv64
  by_cases h : l.length = 64
  · rw [sel_neg (by simp only [bne_eq_false_iff_eq]; omega), all_loop lvIn l (spec_l09All_l2 l 64 5000) (by
      intro i hi
      unfold spec_l09All_l2
      rw [sel_yes (by omega), req_p (by omega), wk (e := 0 - 5000) (by omega) (by omega), spec_l01In_eq, bnd_s, wk (by omega) (by omega), Int.toNat_natCast]
      rfl) (by unfold spec_l09All_l2; rw [sel_no (by omega)]), bnd_s, decide_eq_true h, Bool.true_and]
    cases l.all lvIn <;> rfl
  · rw [sel_pos (by simp only [bne_iff_ne, ne_eq]; omega), decide_eq_false h, Bool.false_and]
theorem impl_areIn_eq (l : List Int) (n lo hi : Int) (hl : l.length ≤ 9223372036854775806) : impl_areIn l n lo hi = some (l.all (fun x => decide (lo ≤ x ∧ x ≤ hi)) && ((l.length : Int) == n)) := by
  unfold impl_areIn
  rw [all_loop (fun x => decide (lo ≤ x ∧ x ≤ hi)) l (impl_areIn_l2 l lo hi) (by
      intro i hi
      unfold impl_areIn_l2
      rw [sel_yes (by omega), req_p (by omega), impl_within_eq, bnd_s, wk (by omega) (by omega), Int.toNat_natCast]
      rfl) (by unfold impl_areIn_l2; rw [sel_no (by omega)]), bnd_s]
  cases l.all (fun x => decide (lo ≤ x ∧ x ≤ hi)) <;> rfl
theorem impl_areLevels_eq (l : List Int) (hl : l.length ≤ 9223372036854775806) : impl_areLevels l = some (lv64 l) := by
  unfold impl_areLevels lv64
  rw [impl_areIn_eq l _ _ _ hl, bnd_s]
  show some (l.all lvIn && ((l.length : Int) == 64)) = _
  have : ((l.length : Int) == 64) = decide (l.length = 64) := by rw [Bool.eq_iff_iff]; simp only [beq_iff_eq, decide_eq_true_eq]; omega
  rw [this, Bool.and_comm]
theorem lv64_parts {l : List Int} (h : lv64 l = true) : l.length = 64 ∧ l.all lvIn = true := by
  unfold lv64 at h; rw [Bool.and_eq_true, decide_eq_true_eq] at h; exact h
def levL (l : List Int) (c : Cond) : List Int := if (c.Large || c.Exact) = true then runsL l else runsL (l.take 16) ++ runsL ((l.drop 16).take 16) ++ runsL ((l.drop 32).take 16) ++ runsL (l.drop 48)
theorem all_take {l : List Int} (h : l.all lvIn = true) (n : Nat) : (l.take n).all lvIn = true := List.all_eq_true.2 fun x hx => List.all_eq_true.1 h x (List.mem_of_mem_take hx)
theorem all_drop {l : List Int} (h : l.all lvIn = true) (n : Nat) : (l.drop n).all lvIn = true := List.all_eq_true.2 fun x hx => List.all_eq_true.1 h x (List.mem_of_mem_drop hx)
theorem levL_bit (l : List Int) (c : Cond) : bitL (levL l c) := by
  unfold levL
  split
  · exact runsL_bit l
  · exact bitL_append (bitL_append (bitL_append (runsL_bit _) (runsL_bit _)) (runsL_bit _)) (runsL_bit _)
theorem levL_len {l : List Int} {c : Cond} (h : lv64 l = true) : (levL l c).length ≤ 5148 := by
  obtain ⟨h1, h2⟩ := lv64_parts h
  unfold levL
  split
  · have := runsL_len l h2 (by omega); omega
  · have a := runsL_len (l.take 16) (all_take h2 _) (by rw [List.length_take]; omega)
    have b := runsL_len ((l.drop 16).take 16) (all_take (all_drop h2 _) _) (by rw [List.length_take, List.length_drop]; omega)
    have c := runsL_len ((l.drop 32).take 16) (all_take (all_drop h2 _) _) (by rw [List.length_take, List.length_drop]; omega)
    have d := runsL_len (l.drop 48) (all_drop h2 _) (by rw [List.length_drop]; omega)
    rw [List.length_take] at a
    rw [List.length_take, List.length_drop] at b c
    rw [List.length_drop] at d
    simp only [List.length_append]; omega
theorem spec_l14Row_eq (l : List Int) (c : Cond) (h : lv64 l = true) : spec_l14Row l c = some (strOfNums (levL l c)) := by
  obtain ⟨h1, h2⟩ := lv64_parts h
  unfold spec_l14Row levL
  rw [sel_or, bnd_s]
  by_cases e : (c.Large || c.Exact) = true
  · rw [sel_pos e, if_pos e, spec_l11Runs_eq l h2 (by omega), bnd_s]
  · rw [sel_neg (by simpa using e), if_neg e]
    have a := runsL_len (l.take 16) (all_take h2 _) (by rw [List.length_take]; omega)
    have b := runsL_len ((l.drop 16).take 16) (all_take (all_drop h2 _) _) (by rw [List.length_take, List.length_drop]; omega)
    have c := runsL_len ((l.drop 32).take 16) (all_take (all_drop h2 _) _) (by rw [List.length_take, List.length_drop]; omega)
    have d := runsL_len (l.drop 48) (all_drop h2 _) (by rw [List.length_drop]; omega)
    have s1 := spec_l11Runs_eq (l.take 16) (all_take h2 _) (by rw [List.length_take]; omega)
    have s2 := spec_l11Runs_eq ((l.drop 16).take 16) (all_take (all_drop h2 _) _) (by rw [List.length_take, List.length_drop]; omega)
    have s3 := spec_l11Runs_eq ((l.drop 32).take 16) (all_take (all_drop h2 _) _) (by rw [List.length_take, List.length_drop]; omega)
    have s4 := spec_l11Runs_eq (l.drop 48) (all_drop h2 _) (by rw [List.length_drop]; omega)
    rw [List.length_take] at a
    rw [List.length_take, List.length_drop] at b c
    rw [List.length_drop] at d
    rw [show ((16 : Int).toNat - (0 : Int).toNat) = 16 from rfl, show (0 : Int).toNat = 0 from rfl, List.drop_zero, show ((32 : Int).toNat - (16 : Int).toNat) = 16 from rfl, show (16 : Int).toNat = 16 from rfl, show ((48 : Int).toNat - (32 : Int).toNat) = 16 from rfl, show (32 : Int).toNat = 32 from rfl, show (48 : Int).toNat = 48 from rfl, Int.toNat_natCast, cut_all]
    rw [req_p (by omega), s1, bnd_s, req_p (by omega), s2, bnd_s, req_p (by simp only [strOfNums_size]; omega), req_p (by omega), s3, bnd_s, str_append, req_p (by simp only [strOfNums_size, List.length_append]; omega), req_p (by omega), s4, bnd_s, str_append, req_p (by simp only [strOfNums_size, List.length_append]; omega), str_append]
theorem impl_levelsRow_eq (l : List Int) (c : Cond) (h : lv64 l = true) : impl_levelsRow l c = some (levL l c) := by
  have hm : maxLen = 9223372036854775807 := rfl
  obtain ⟨h1, h2⟩ := lv64_parts h
  unfold impl_levelsRow levL
  rw [sel_or, bnd_s]
  by_cases e : (c.Large || c.Exact) = true
  · rw [sel_pos e, if_pos e, impl_runs_eq l h2 (by omega), bnd_s]
  · rw [sel_neg (by simpa using e), if_neg e]
    have step : ∀ (n : Nat) (s : List Int), n < 4 → s.length ≤ 4000 → impl_levelsRow_l2 l ((n : Int), s) = some (.go (((n + 1 : Nat) : Int), s ++ runsL ((l.drop (16 * n)).take 16))) := by
      intro n s hn hs
      have g := runsL_len ((l.drop (16 * n)).take 16) (all_take (all_drop h2 _) _) (by rw [List.length_take, List.length_drop]; omega)
      rw [List.length_take, List.length_drop] at g
      unfold impl_levelsRow_l2
      simp only
      rw [sel_yes (by omega), wk (e := 16 * (n : Int)) (by omega) (by omega), wk (e := 16 * (n : Int) + 16) (by omega) (by omega), req_p (by omega), show (16 * (n : Int)).toNat = 16 * n by omega, show (16 * (n : Int) + 16).toNat - 16 * n = 16 by omega, impl_runs_eq _ (all_take (all_drop h2 _) _) (by rw [List.length_take, List.length_drop]; omega), bnd_s, req_p (by omega), wk (by omega) (by omega)]
      rfl
    have g0 := runsL_len ((l.drop (16 * 0)).take 16) (all_take (all_drop h2 _) _) (by rw [List.length_take, List.length_drop]; omega)
    have g1 := runsL_len ((l.drop (16 * 1)).take 16) (all_take (all_drop h2 _) _) (by rw [List.length_take, List.length_drop]; omega)
    have g2 := runsL_len ((l.drop (16 * 2)).take 16) (all_take (all_drop h2 _) _) (by rw [List.length_take, List.length_drop]; omega)
    rw [List.length_take, List.length_drop] at g0 g1 g2
    have l4 : ∀ s, impl_levelsRow_l2 l (((4 : Nat) : Int), s) = some (.done s) := by intro s; unfold impl_levelsRow_l2; simp only; rw [sel_no (by omega)]
    have e : loop (impl_levelsRow_l2 l) (((0 : Nat) : Int), []) = some ([] ++ runsL ((l.drop (16 * 0)).take 16) ++ runsL ((l.drop (16 * 1)).take 16) ++ runsL ((l.drop (16 * 2)).take 16) ++ runsL ((l.drop (16 * 3)).take 16)) := by
      rw [loop_go (step 0 [] (by omega) (by simp)), loop_go (step 1 _ (by omega) (by simp only [List.length_append, List.length_nil]; omega)), loop_go (step 2 _ (by omega) (by simp only [List.length_append, List.length_nil]; omega)), loop_go (step 3 _ (by omega) (by simp only [List.length_append, List.length_nil]; omega)), loop_done (l4 _)]
    refine (bnd_e e).trans ?_
    rw [List.nil_append, show 16 * 0 = 0 from rfl, List.drop_zero, show (l.drop (16 * 3)).take 16 = l.drop 48 from List.take_of_length_le (by rw [List.length_drop]; omega)]
def condOk (c : Cond) : Bool := decide (0 ≤ c.Qp ∧ c.Qp ≤ 40) && !(c.Large && c.Exact)
theorem spec_CondOk_eq (c : Cond) : spec_CondOk c = some (condOk c) := by
  unfold spec_CondOk condOk
  rw [spec_l01In_eq, bnd_s, sel_nor, sel_and, bnd_s]
  cases c.Large <;> cases c.Exact <;> rfl
theorem impl_CondOk_eq (c : Cond) : impl_CondOk c = some (condOk c) := by
  unfold impl_CondOk condOk
  rw [impl_within_eq, bnd_s, sel_nor, sel_and, bnd_s]
  cases c.Large <;> cases c.Exact <;> rfl
def sqOk (s : Square) : Bool :=
  if s.Kind = 0 then decide (s.Mode = 0 ∧ s.Dx = 0 ∧ s.Dy = 0 ∧ s.Levels.length = 0)
  else if s.Kind = 1 then decide (s.Mode = 0) && (decide (-16 ≤ s.Dx ∧ s.Dx ≤ 16) && (decide (-16 ≤ s.Dy ∧ s.Dy ≤ 16) && lv64 s.Levels))
  else if s.Kind = 2 then decide (0 ≤ s.Mode ∧ s.Mode ≤ 3) && (decide (s.Dx = 0) && (decide (s.Dy = 0) && lv64 s.Levels))
  else false
theorem beq_dec (a b : Int) : (a == b) = decide (a = b) := by rw [Bool.eq_iff_iff]; simp
theorem spec_SquareOk_eq (s : Square) : spec_SquareOk s = some (sqOk s) := by
  unfold spec_SquareOk sqOk
  simp only [spec_l01In_eq, spec_l09All_lv, bnd_s, sel_and, beq_dec]
  simp only [sel_d]
  by_cases h0 : s.Kind = 0
  · rw [if_pos h0, if_pos h0]; congr 1; rw [Bool.eq_iff_iff]; simp
  · rw [if_neg h0, if_neg h0]
    by_cases h1 : s.Kind = 1
    · rw [if_pos h1, if_pos h1]
    · rw [if_neg h1, if_neg h1]
      by_cases h2 : s.Kind = 2
      · rw [decide_eq_true h2, Bool.true_and, if_pos h2]
      · rw [decide_eq_false h2, Bool.false_and, if_neg h2]
theorem impl_SquareOk_eq (s : Square) (hl : s.Levels.length ≤ 9223372036854775806) : impl_SquareOk s = some (sqOk s) := by
  unfold impl_SquareOk sqOk
  simp only [impl_within_eq, impl_areLevels_eq _ hl, bnd_s, sel_and, beq_dec]
  simp only [sel_d]
  by_cases h0 : s.Kind = 0
  · rw [if_pos h0, if_pos h0]; congr 1; rw [Bool.eq_iff_iff]; simp
  · rw [if_neg h0, if_neg h0]
    by_cases h1 : s.Kind = 1
    · rw [if_pos h1, if_pos h1]
    · rw [if_neg h1, if_neg h1]
      by_cases h2 : s.Kind = 2
      · rw [decide_eq_true h2, Bool.true_and, if_pos h2]
      · rw [decide_eq_false h2, Bool.false_and, if_neg h2]
def sqLet (s : Square) (c : Cond) : Bool := !c.Key || s.Kind == 2
def sqL (s : Square) (c : Cond) : List Int :=
  (if c.Key = true then [] else ueL s.Kind.toNat) ++
  (if s.Kind = 1 then seL s.Dx ++ seL s.Dy ++ levL s.Levels c else if s.Kind = 2 then ueL s.Mode.toNat ++ levL s.Levels c else [])
theorem sqOk_kind {s : Square} (h : sqOk s = true) : 0 ≤ s.Kind ∧ s.Kind ≤ 2 := by
  unfold sqOk at h
  repeat' split at h
  all_goals first | omega | simp at h
theorem sqOk_one {s : Square} (h : sqOk s = true) (h1 : s.Kind = 1) : (-16 ≤ s.Dx ∧ s.Dx ≤ 16) ∧ (-16 ≤ s.Dy ∧ s.Dy ≤ 16) ∧ lv64 s.Levels = true := by
  unfold sqOk at h
  rw [if_neg (by omega), if_pos h1] at h
  simp only [Bool.and_eq_true, decide_eq_true_eq] at h
  exact ⟨h.2.1, h.2.2.1, h.2.2.2⟩
theorem sqOk_two {s : Square} (h : sqOk s = true) (h1 : s.Kind = 2) : (0 ≤ s.Mode ∧ s.Mode ≤ 3) ∧ lv64 s.Levels = true := by
  unfold sqOk at h
  rw [if_neg (by omega), if_neg (by omega), if_pos h1] at h
  simp only [Bool.and_eq_true, decide_eq_true_eq] at h
  exact ⟨h.1, h.2.2.2⟩
theorem sqL_bit (s : Square) (c : Cond) : bitL (sqL s c) := by
  unfold sqL
  refine bitL_append ?_ ?_
  · split
    · exact bitL_nil
    · exact ueL_bit _
  · split
    · exact bitL_append (bitL_append (ueL_bit _) (ueL_bit _)) (levL_bit _ _)
    · split
      · exact bitL_append (ueL_bit _) (levL_bit _ _)
      · exact bitL_nil
theorem sqL_len {s : Square} {c : Cond} (h : sqOk s = true) : (sqL s c).length ≤ 5265 := by
  have hk := sqOk_kind h
  have u := ueL_len s.Kind.toNat (by omega)
  have e1 : (if c.Key = true then [] else ueL s.Kind.toNat).length ≤ 39 := by split; simp; exact u.1
  unfold sqL
  rw [List.length_append]
  by_cases h1 : s.Kind = 1
  · obtain ⟨a, b, d⟩ := sqOk_one h h1
    have x := seL_len s.Dx (by omega)
    have y := seL_len s.Dy (by omega)
    have z := levL_len (c := c) d
    rw [if_pos h1]; simp only [List.length_append]; omega
  · by_cases h2 : s.Kind = 2
    · obtain ⟨a, d⟩ := sqOk_two h h2
      have x := ueL_len s.Mode.toNat (by omega)
      have z := levL_len (c := c) d
      rw [if_neg h1, if_pos h2]; simp only [List.length_append]; omega
    · rw [if_neg h1, if_neg h2]; simp only [List.length_nil]; omega
theorem spec_l15Row_eq (s : Square) (c : Cond) (h : sqOk s = true) : spec_l15Row s c = some (strOfNums (sqL s c)) := by
  have hk := sqOk_kind h
  have u := ueL_len s.Kind.toNat (by omega)
  unfold spec_l15Row
  have e1 : (sel (!c.Key) (bnd (spec_l03Ue s.Kind) fun q2 => some q2) (some ⟨#[]⟩)) = some (strOfNums (if c.Key = true then [] else ueL s.Kind.toNat)) := by
    rw [show s.Kind = ((s.Kind.toNat : Nat) : Int) by omega, spec_l03Ue_eq _ (by omega), bnd_s, Int.toNat_natCast]
    cases c.Key <;> rfl
  rw [e1, bnd_s]
  have e2 : (if c.Key = true then [] else ueL s.Kind.toNat).length ≤ 39 := by split; simp; exact u.1
  unfold sqL
  generalize (if c.Key = true then [] else ueL s.Kind.toNat) = k at e2 ⊢
  by_cases h1 : s.Kind = 1
  · obtain ⟨a, b, d⟩ := sqOk_one h h1
    have x := seL_len s.Dx (by omega)
    have y := seL_len s.Dy (by omega)
    have z := levL_len (c := c) d
    rw [if_pos h1, sel_pos (by simpa using h1), spec_l03Se_eq _ (by omega), bnd_s, req_p (by simp only [strOfNums_size]; omega), spec_l03Se_eq _ (by omega), bnd_s, str_append, req_p (by simp only [strOfNums_size, List.length_append]; omega), spec_l14Row_eq _ c d, bnd_s, str_append, req_p (by simp only [strOfNums_size, List.length_append]; omega), str_append]
    simp only [List.append_assoc]
  · rw [if_neg h1, sel_neg (by simpa using h1)]
    by_cases h2 : s.Kind = 2
    · obtain ⟨a, d⟩ := sqOk_two h h2
      have x := ueL_len s.Mode.toNat (by omega)
      have z := levL_len (c := c) d
      rw [if_pos h2, sel_pos (by simpa using h2), show s.Mode = ((s.Mode.toNat : Nat) : Int) by omega, spec_l03Ue_eq _ (by omega), bnd_s, req_p (by simp only [strOfNums_size]; omega), spec_l14Row_eq _ c d, bnd_s, str_append, req_p (by simp only [strOfNums_size, List.length_append]; omega), str_append, Int.toNat_natCast]
      simp only [List.append_assoc]
    · rw [if_neg h2, sel_neg (by simpa using h2), List.append_nil]
theorem impl_SquareRow_eq (s : Square) (c : Cond) (hl : s.Levels.length ≤ 9223372036854775806) : impl_SquareRow s c = some (if (sqOk s && (condOk c && sqLet s c)) = true then (strOfNums (sqL s c), true) else (⟨#[]⟩, false)) := by
  have hm : maxLen = 9223372036854775807 := rfl
  unfold impl_SquareRow impl_Square_let
  rw [impl_SquareOk_eq s hl, bnd_s, impl_CondOk_eq, bnd_s, sel_nor, bnd_s, bnd_s]
  by_cases hok : (sqOk s && (condOk c && sqLet s c)) = true
  · rw [if_pos hok]
    simp only [Bool.and_eq_true] at hok
    obtain ⟨h, hc, hlet⟩ := hok
    have hk := sqOk_kind h
    have u := ueL_len s.Kind.toNat (by omega)
    unfold sqLet at hlet
    rw [h, hc, sel_t, sel_t, hlet, bnd_s, Bool.not_true, sel_f]
    have e1 : (sel (!c.Key) (bnd (impl_ue s.Kind) fun q6 => req ((([] : List Int).length + (numsOf q6).length) * 1 ≤ 140737488355328 ∧ ([] : List Int).length + (numsOf q6).length ≤ maxLen) <| some (([] : List Int) ++ (numsOf q6))) (some ([] : List Int))) = some (if c.Key = true then [] else ueL s.Kind.toNat) := by
      rw [show s.Kind = ((s.Kind.toNat : Nat) : Int) by omega, impl_ue_eq _ (by omega), bnd_s, nums_str _ (bitL_byte (ueL_bit _)), req_p (by simp only [List.length_nil]; omega), Int.toNat_natCast]
      cases c.Key <;> rfl
    rw [e1, bnd_s]
    have e2 : (if c.Key = true then [] else ueL s.Kind.toNat).length ≤ 39 := by split; simp; exact u.1
    unfold sqL
    generalize (if c.Key = true then [] else ueL s.Kind.toNat) = k at e2 ⊢
    by_cases h1 : s.Kind = 1
    · obtain ⟨a, b, d⟩ := sqOk_one h h1
      have x := seL_len s.Dx (by omega)
      have y := seL_len s.Dy (by omega)
      have z := levL_len (c := c) d
      rw [if_pos h1, sel_pos (by simpa using h1), impl_SeRow_eq _ (by omega), bnd_s, impl_SeRow_eq _ (by omega), bnd_s]
      simp only
      rw [nums_str (seL s.Dx) (bitL_byte (ueL_bit _)), nums_str (seL s.Dy) (bitL_byte (ueL_bit _)), req_p (by omega), req_p (by rw [List.length_append]; omega), impl_levelsRow_eq _ c d, bnd_s, req_p (by simp only [List.length_append]; omega), bnd_s]
      simp only [List.append_assoc]
    · rw [if_neg h1, sel_neg (by simpa using h1)]
      by_cases h2 : s.Kind = 2
      · obtain ⟨a, d⟩ := sqOk_two h h2
        have x := ueL_len s.Mode.toNat (by omega)
        have z := levL_len (c := c) d
        rw [if_pos h2, sel_pos (by simpa using h2), show s.Mode = ((s.Mode.toNat : Nat) : Int) by omega, impl_ue_eq _ (by omega), bnd_s, nums_str _ (bitL_byte (ueL_bit _)), req_p (by omega), impl_levelsRow_eq _ c d, bnd_s, req_p (by simp only [List.length_append]; omega), bnd_s, Int.toNat_natCast]
        simp only [List.append_assoc]
      · rw [if_neg h2, sel_neg (by simpa using h2), bnd_s, List.append_nil]
  · rw [if_neg hok]
    unfold sqLet at hok
    cases h1 : sqOk s <;> cases h2 : condOk c <;> cases h3 : (!c.Key || s.Kind == 2) <;> simp_all [bnd, sel]
def tilesL : List Square → Cond → List Int
  | [], _ => []
  | s :: r, c => sqL s c ++ tilesL r c
def sqAll (l : List Square) (c : Cond) : Bool := l.all fun s => sqOk s && (condOk c && sqLet s c)
theorem tilesL_len : ∀ {l : List Square} {c : Cond}, sqAll l c = true → (tilesL l c).length ≤ 5265 * l.length
  | [], _, _ => by simp [tilesL]
  | s :: r, c, h => by
    unfold sqAll at h
    rw [List.all_cons, Bool.and_eq_true, Bool.and_eq_true] at h
    have h1 := sqL_len (c := c) h.1.1
    have h2 := tilesL_len (l := r) (c := c) h.2
    rw [tilesL, List.length_append, List.length_cons]; omega
def tileRow (l : List Square) (c : Cond) : ByteArray × Bool := if (decide (1 ≤ l.length ∧ l.length ≤ 64) && sqAll l c) = true then (strOfNums (tilesL l c), true) else (⟨#[]⟩, false)
theorem spec_TileRow_eq (l : List Square) (c : Cond) : spec_TileRow l c = some (tileRow l c) := by
  have hm : maxLen = 9223372036854775807 := rfl
  unfold spec_TileRow tileRow spec_l16Ok
  rw [spec_CondOk_eq, bnd_s, spec_l01In_eq, bnd_s, sel_nor, bnd_s]
  by_cases hl : 1 ≤ l.length ∧ l.length ≤ 64
  · rw [decide_eq_true (show (1 : Int) ≤ (l.length : Int) ∧ (l.length : Int) ≤ 64 by omega), decide_eq_true hl, Bool.true_and]
    cases hc : condOk c with
    | false =>
      have : sqAll l c = false := by
        unfold sqAll
        rw [List.all_eq_false]
        obtain ⟨s, r, rfl⟩ : ∃ s r, l = s :: r := by
          cases l with
          | nil => simp at hl
          | cons s r => exact ⟨s, r, rfl⟩
        exact ⟨s, by simp, by rw [hc]; simp⟩
      rw [this]; rfl
    | true =>
      have key : ∀ (r a : List Square), l = a ++ r → loop (spec_l16Ok_l2 l c) (a.length : Int) = some (if sqAll r c = true then .out () else .ret false) := by
        intro r
        induction r with
        | nil =>
          intro a ha
          rw [List.append_nil] at ha
          exact ldone (by unfold spec_l16Ok_l2; rw [sel_no (by rw [ha]; omega)]; rfl)
        | cons s r ih =>
          intro a ha
          have hlen : a.length < l.length := by rw [ha]; simp
          have hx : l.getD a.length dSquare = s := by rw [ha]; exact getD_mid a s _ r
          have hstep : spec_l16Ok_l2 l c (a.length : Int) = sel (!(sqOk s && sqLet s c)) (some (.done (.ret false))) (some (.go ((a.length + 1 : Nat) : Int))) := by
            unfold spec_l16Ok_l2
            simp only [Int.toNat_natCast, hx]
            rw [sel_yes (by omega), req_p (by omega), show (⟨s.Kind, s.Mode, s.Dx, s.Dy, s.Levels⟩ : Square) = s from rfl, spec_SquareOk_eq, bnd_s, req_p (by omega), wk (by omega) (by omega)]
            unfold sqLet
            cases sqOk s <;> cases c.Key <;> cases h2 : (s.Kind == 2) <;> first | rfl | (simp only [bne, h2]; rfl)
          have hone : sqAll (s :: r) c = (sqOk s && sqLet s c && sqAll r c) := by unfold sqAll; rw [List.all_cons, hc, Bool.true_and]
          rw [hone]
          cases e : (sqOk s && sqLet s c) with
          | true =>
            rw [e] at hstep
            have := ih (a ++ [s]) (by rw [ha]; simp)
            rw [List.length_append, List.length_singleton] at this
            rw [loop_go hstep, this, Bool.true_and]
          | false => rw [e] at hstep; rw [loop_done hstep, Bool.false_and]; rfl
      have := key l [] rfl
      simp only [Bool.not_true, Bool.false_or, sel_f]
      refine (bnd_e (a := sqAll l c) ((bnd_e this).trans (by cases sqAll l c <;> rfl))).trans ?_
      rw [sel_n]
      cases hs : sqAll l c with
      | false => rfl
      | true =>
        rw [sel_t, if_pos rfl]
        have tot := tilesL_len hs
        have kr : ∀ (r a : List Square) (t : List Int), l = a ++ r → t.length ≤ 5265 * a.length → loop (spec_l16Row_l2 l c) ((a.length : Int), t) = some (t ++ tilesL r c) := by
          intro r
          induction r with
          | nil =>
            intro a t ha _
            rw [List.append_nil] at ha
            exact ldone (by unfold spec_l16Row_l2; simp only; rw [sel_no (by rw [ha]; omega), tilesL, List.append_nil])
          | cons s r ih =>
            intro a t ha ht
            have hlen : a.length < l.length := by rw [ha]; simp
            have hx : l.getD a.length dSquare = s := by rw [ha]; exact getD_mid a s _ r
            have hok : sqOk s = true := by
              have := List.all_eq_true.1 (show l.all _ = true from hs) s (by rw [ha]; simp)
              rw [Bool.and_eq_true] at this; exact this.1
            have g := sqL_len (c := c) hok
            have hn := ih (a ++ [s]) (t ++ sqL s c) (by rw [ha]; simp) (by simp only [List.length_append, List.length_singleton]; omega)
            rw [List.length_append, List.length_singleton] at hn
            rw [tilesL, ← List.append_assoc, ← hn]
            refine loop_go ?_
            unfold spec_l16Row_l2
            simp only [Int.toNat_natCast, hx]
            rw [sel_yes (by omega), req_p (by omega), show (⟨s.Kind, s.Mode, s.Dx, s.Dy, s.Levels⟩ : Square) = s from rfl, spec_l15Row_eq s c hok, bnd_s, nums_str _ (bitL_byte (sqL_bit _ _)), req_p (by omega), wk (by omega) (by omega)]
            rfl
        have hrow : spec_l16Row l c = some (strOfNums (tilesL l c)) := by
          unfold spec_l16Row
          exact bnd_e (kr l [] [] rfl (by simp))
        rw [hrow, bnd_s]
  · rw [decide_eq_false hl, decide_eq_false (show ¬ ((1 : Int) ≤ (l.length : Int) ∧ (l.length : Int) ≤ 64) by omega), Bool.false_and]
    cases condOk c <;> rfl
theorem impl_TileRow_eq (l : List Square) (c : Cond) (hs : ∀ s ∈ l, s.Levels.length ≤ 9223372036854775806) : impl_TileRow l c = some (tileRow l c) := by
  have hm : maxLen = 9223372036854775807 := rfl
  unfold impl_TileRow tileRow
  rw [impl_within_eq, bnd_s, sel_n]
  by_cases hl : 1 ≤ l.length ∧ l.length ≤ 64
  · rw [sel_yes (by omega), decide_eq_true hl, Bool.true_and]
    have key : ∀ (r a : List Square) (t : List Int), l = a ++ r → t.length ≤ 5265 * a.length → loop (impl_TileRow_l2 l c) ((a.length : Int), t) = some (if sqAll r c = true then .out (t ++ tilesL r c) else .ret (⟨#[]⟩, false)) := by
      intro r
      induction r with
      | nil =>
        intro a t ha _
        rw [List.append_nil] at ha
        exact ldone (by unfold impl_TileRow_l2; simp only; rw [sel_no (by rw [ha]; omega), tilesL, List.append_nil]; rfl)
      | cons s r ih =>
        intro a t ha ht
        have hlen : a.length < l.length := by rw [ha]; simp
        have hx : l.getD a.length dSquare = s := by rw [ha]; exact getD_mid a s _ r
        have hone : sqAll (s :: r) c = ((sqOk s && (condOk c && sqLet s c)) && sqAll r c) := by unfold sqAll; rw [List.all_cons]
        have hrow := impl_SquareRow_eq s c (hs s (by rw [ha]; simp))
        rw [hone]
        cases e : (sqOk s && (condOk c && sqLet s c)) with
        | true =>
          rw [e, if_pos rfl] at hrow
          have hok : sqOk s = true := by rw [Bool.and_eq_true] at e; exact e.1
          have g := sqL_len (c := c) hok
          have hn := ih (a ++ [s]) (t ++ sqL s c) (by rw [ha]; simp) (by simp only [List.length_append, List.length_singleton]; omega)
          rw [List.length_append, List.length_singleton] at hn
          rw [Bool.true_and, tilesL, ← List.append_assoc, ← hn]
          refine loop_go ?_
          unfold impl_TileRow_l2
          simp only [Int.toNat_natCast, hx]
          rw [sel_yes (by omega), req_p (by omega), show (⟨s.Kind, s.Mode, s.Dx, s.Dy, s.Levels⟩ : Square) = s from rfl, hrow, bnd_s, sel_n, sel_t, nums_str _ (bitL_byte (sqL_bit _ _)), req_p (by omega), wk (by omega) (by omega)]
          rfl
        | false =>
          rw [e, if_neg (by decide)] at hrow
          rw [Bool.false_and, if_neg (by decide)]
          refine ldone ?_
          unfold impl_TileRow_l2
          simp only [Int.toNat_natCast, hx]
          rw [sel_yes (by omega), req_p (by omega), show (⟨s.Kind, s.Mode, s.Dx, s.Dy, s.Levels⟩ : Square) = s from rfl, hrow, bnd_s, sel_n, sel_f]
    refine (bnd_e (key l [] [] rfl (by simp))).trans ?_
    cases sqAll l c <;> rfl
  · rw [sel_no (by omega), decide_eq_false hl, Bool.false_and]; rfl
theorem sz_loopP {f : (Int × Int) → Option (Lp (Int × Int) (Ou Int Int))} (n : Nat) (B : Int) (R : Nat → Prop) (h : ∀ (i : Nat) (m : Int), i < n → 0 ≤ m → m ≤ B → f (m, (i : Int)) = some (.done (.ret (-1))) ∨ ∃ m', f (m, (i : Int)) = some (.go (m', ((i + 1 : Nat) : Int))) ∧ 0 ≤ m' ∧ m' ≤ m ∧ R i)
    (h0 : ∀ m, f (m, (n : Int)) = some (.done (.out m))) (m : Int) (hm : 0 ≤ m) (hB : m ≤ B) : loop f (m, 0) = some (.ret (-1)) ∨ ∃ t, loop f (m, 0) = some (.out t) ∧ 0 ≤ t ∧ t ≤ m ∧ ∀ i, i < n → R i := by
  have := down_to (P := fun i => ∀ m : Int, 0 ≤ m → m ≤ B → loop f (m, (i : Int)) = some (.ret (-1)) ∨ ∃ t, loop f (m, (i : Int)) = some (.out t) ∧ 0 ≤ t ∧ t ≤ m ∧ ∀ j, i ≤ j → j < n → R j) n ?_ ?_ 0 (by omega) m hm hB
  · rcases this with e | ⟨t, e, a, b, c⟩
    · exact .inl e
    · exact .inr ⟨t, e, a, b, fun i hi => c i (by omega) hi⟩
  · intro m h1 h2; exact .inr ⟨m, loop_done (h0 m), h1, Int.le_refl _, fun j a b => by omega⟩
  · intro i hi ih m h1 h2
    rcases h i m hi h1 h2 with e | ⟨m', e, h3, h4, h5⟩
    · exact .inl (loop_done e)
    · rw [loop_go e]
      rcases ih m' h3 (by omega) with e | ⟨t, e, h6, h7, h8⟩
      · exact .inl e
      · exact .inr ⟨t, e, h6, by omega, fun j a b => by
          rcases Nat.eq_or_lt_of_le a with e | e
          · subst e; exact h5
          · exact h8 j (by omega) b⟩
theorem laws_szSquareS_ev (l : List Square) (m : Int) (hl : l.length ≤ maxLen) (hs : ∀ s ∈ l, s.Levels.length ≤ maxLen) (h0 : 0 ≤ m) (h1 : m ≤ 1048576) : ∃ t, laws_szSquareS l m = some t ∧ t ≤ m ∧ -1 ≤ t ∧ (0 ≤ t → l.length ≤ 1048576 ∧ ∀ s ∈ l, s.Levels.length ≤ 1048576) := by
  have hm : maxLen = 9223372036854775807 := rfl
  unfold laws_szSquareS
  rw [wk (by omega) (by omega)]
  by_cases h : m - l.length < 0
  · rw [sel_yes h]; exact ⟨_, rfl, by omega, by omega, by omega⟩
  · rw [sel_no h]
    rcases sz_loopP (f := laws_szSquareS_l2 l) l.length 1048576 (fun i => (l.getD i dSquare).Levels.length ≤ 1048576) (by
      intro i m hi h0 h1
      have hx := hs (l.getD i dSquare) (by rw [getD_at l i hi]; exact List.getElem_mem hi)
      unfold laws_szSquareS_l2 laws_szSquare
      simp only [Int.toNat_natCast]
      rw [sel_yes (by omega), req_p (by omega), laws_szIntS_eq _ m hx h0 h1, bnd_s, wk (by omega) (by omega)]
      by_cases e : m < (l.getD i dSquare).Levels.length
      · left; rw [if_pos e, sel_yes (by omega), bnd_s, sel_yes (by omega)]
      · right; rw [if_neg e, sel_no (by omega), bnd_s, sel_no (by omega)]; exact ⟨_, rfl, by omega, by omega, by omega⟩) (by
      intro m; unfold laws_szSquareS_l2; simp only; rw [sel_no (by omega)]) (m - l.length) (by omega) (by omega) with e | ⟨t, e, h2, h3, h4⟩
    · rw [e]; exact ⟨_, rfl, by omega, by omega, by omega⟩
    · rw [e]
      refine ⟨_, rfl, by omega, by omega, fun _ => ⟨by omega, fun s hs => ?_⟩⟩
      obtain ⟨i, hi, rfl⟩ := List.getElem_of_mem hs
      have := h4 i hi
      rw [getD_at l i hi] at this; exact this
theorem laws_toSquareS_eq (l : List Square) (hl : l.length ≤ 1048576) (hs : ∀ s ∈ l, s.Levels.length ≤ 1048576) : laws_toSquareS l = some l := by
  unfold laws_toSquareS
  rw [req_p (by omega), Int.toNat_natCast]
  have := fill_loop l (fun p : Square => p) dSquare dSquare (f := laws_toSquareS_l2 l) (by
    intro i o hi ho
    unfold laws_toSquareS_l2 laws_toSquare
    simp only [Int.toNat_natCast]
    rw [sel_yes (by omega), req_p (by omega), laws_toIntS_eq _ (by rw [getD_at l i hi]; exact hs _ (List.getElem_mem hi)), bnd_s, bnd_s, req_p (by omega), req_p (by omega), bnd_s, wk (by omega) (by omega)]
    rfl) (by
    intro o; unfold laws_toSquareS_l2; simp only; rw [sel_no (by omega)])
  rw [this, bnd_s, List.map_id']
theorem laws_eqSquareS_self (l : List Square) (hl : l.length ≤ 1048600) (hs : ∀ s ∈ l, s.Levels.length ≤ 1048600) : laws_eqSquareS l l = some true := by
  unfold laws_eqSquareS
  rw [sel_neg (by simp), self_loop l.length (f := laws_eqSquareS_l2 l l) (by
    intro i hi
    have hx := hs (l.getD i dSquare) (by rw [getD_at l i hi]; exact List.getElem_mem hi)
    unfold laws_eqSquareS_l2 laws_eqSquare
    simp only [Int.toNat_natCast]
    rw [sel_yes (by omega), req_p (by omega), req_p (by omega), laws_eqIntS_self _ (by omega)]
    simp only [bne_self_eq_false, sel_f, bnd_s, Bool.not_true]
    rw [wk (by omega) (by omega)]
    rfl) (by unfold laws_eqSquareS_l2; rw [sel_no (by omega)])]
  rfl
theorem FnExactSentSize {p0 : List Square} {p1 : Cond} (h0 : p0.length ≤ maxLen ∧ ∀ y ∈ p0, okSquare y) (h1 : okCond p1) : laws_FnExactSentSize p0 p1 = some true := by
  have hm : maxLen = 9223372036854775807 := rfl
  unfold laws_FnExactSentSize
  obtain ⟨t, e, a1, a2, a3⟩ := laws_szSquareS_ev p0 1048576 h0.1 (fun s hs => (h0.2 s hs).2.2.2.2.1) (by omega) (by omega)
  rw [e, bnd_s]
  by_cases ht : t < 0
  · rw [sel_yes ht]
  rw [sel_no ht]
  obtain ⟨l1, l2⟩ := a3 (by omega)
  have es : spec_SentSize p0 p1 = some (((tileRow p0 p1).1.size : Nat) : Int) := by unfold spec_SentSize; rw [spec_TileRow_eq, bnd_s]
  have ei : impl_SentSize p0 p1 = some (((tileRow p0 p1).1.size : Nat) : Int) := by unfold impl_SentSize; rw [impl_TileRow_eq _ _ (fun s hs => by have := l2 s hs; omega), bnd_s]
  simp only [laws_toSquareS_eq p0 l1 l2, laws_toCond, bnd_s, es, ei, bne_self_eq_false, sel_f, laws_eqSquareS_self p0 (by omega) (fun s hs => by have := l2 s hs; omega), Bool.not_true]
end Go.Proofs.Ytplmeeookgefnaa.A.Pure
