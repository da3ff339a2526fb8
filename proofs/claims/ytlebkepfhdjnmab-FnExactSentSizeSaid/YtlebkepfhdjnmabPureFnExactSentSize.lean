/- The pure statement of the law FnExactSentSize: over numbers, texts and lists alone, what the law computes is true. Conditions: the sizes of what a machine holds. -/
import Derived.Test.YtlebkepfhdjnmabDFnExactSentSize
namespace Go.Proofs.Ytlebkepfhdjnmab.A.Pure
open Go Go.Proofs Go.Proofs.YtlebkepfhdjnmabAL Go.RowKit
set_option linter.unusedVariables false
set_option linter.unusedSimpArgs false
set_option maxHeartbeats 1000000
theorem Xai {α β : Type} (a : α) (f : α → Option β) : bnd (some a) f = f a := rfl
theorem Xl7 {α β : Type} {x : Option α} {a : α} {f : α → Option β} (h : x = some a) : bnd x f = f a := by subst h; rfl
theorem Xrh {β : Type} (x y : β) : sel true x y = x := rfl
theorem Xrg {β : Type} (x y : β) : sel false x y = y := rfl
theorem Xn4 {β : Type} (b : Bool) (x y : β) : sel (!b) x y = sel b y x := by cases b <;> rfl
theorem Xmy (b x : Bool) : sel b (some x) (some false) = some (b && x) := by cases b <;> rfl
theorem Xs0 (b x : Bool) : sel b (some true) (some x) = some (b || x) := by cases b <;> rfl
theorem Xmz (b x : Bool) : sel b (some x) (some true) = some (!b || x) := by cases b <;> rfl
theorem Xrf {β : Type} (p : Prop) [Decidable p] (x y : β) : sel (decide p) x y = if p then x else y := by
 by_cases h : p <;> simp [h, sel]
theorem Xec {β : Type} {b : Bool} {x y : β} (h : b = true) : sel b x y = x := by subst h; rfl
theorem Xcw {β : Type} {b : Bool} {x y : β} (h : b = false) : sel b x y = y := by subst h; rfl
theorem Xj1 {β : Type} {p : Prop} [Decidable p] {x y : β} (h : p) : sel (decide p) x y = x := by simp [h, sel]
theorem Xgv {β : Type} {p : Prop} [Decidable p] {x y : β} (h : ¬ p) : sel (decide p) x y = y := by simp [h, sel]
theorem Xcq {β : Type} {c : Prop} [Decidable c] {k : Option β} (h : c) : req c k = k := if_pos h
theorem wk {e : Int} (h1 : -9223372036854775808 ≤ e) (h2 : e ≤ 9223372036854775807) : Xal .i64 e = e := by
 show wrap64 e = e
 unfold wrap64; omega
theorem rqA {β : Type} {c : Prop} [Decidable c] {k : Option β} (h : c := by omega) : req c k = k := Xcq h
theorem syA {β : Type} {c : Prop} [Decidable c] {x y : β} (h : c := by omega) : sel (decide c) x y = x := Xj1 h
theorem snA {β : Type} {c : Prop} [Decidable c] {x y : β} (h : ¬ c := by omega) : sel (decide c) x y = y := Xgv h
theorem wkA {e : Int} (h1 : -9223372036854775808 ≤ e := by omega) (h2 : e ≤ 9223372036854775807 := by omega) : Xal .i64 e = e := wk h1 h2
theorem w8 {e : Int} (h1 : 0 ≤ e) (h2 : e ≤ 255) : Xal .u8 e = e := by
 show IntKind.wrap .u8 e = e
 simp [IntKind.wrap, IntKind.signed, IntKind.bits]; omega
theorem Xsm {a b : Int} (h : 0 ≤ a) : Int.tmod a b = a % b := Int.tmod_eq_emod_of_nonneg h
theorem Xsj {a b : Int} (h : 0 ≤ a) : Int.tdiv a b = a / b := Int.tdiv_eq_ediv_of_nonneg h
theorem Xqv {P : Nat → Prop} (n : Nat) (h0 : P n) (hs : ∀ i, i < n → P (i + 1) → P i) : ∀ i, i ≤ n → P i := by
 intro i hi
 obtain ⟨k, rfl⟩ : ∃ k, n = i + k := ⟨n - i, by omega⟩
 clear hi
 induction k generalizing i with
 | zero => exact h0
 | succ k ih =>
  refine hs i (by omega) ?_
  exact ih (i + 1) (by rw [show i + 1 + k = i + (k + 1) by omega]; exact h0) (fun j hj => hs j (by omega))
theorem lgo {V O : Type} {f : V → Option (Lp V O)} {x y : V} {r : Option O} (h : f x = some (.go y)) (k : loop f y = r) : loop f x = r := by rw [Xbm h]; exact k
theorem Xhq {V O : Type} {f : V → Option (Lp V O)} {x : V} {o : O} (h : f x = some (.done o)) : loop f x = some o := Xch h
theorem Xmc {α : Type} (l : List α) (i : Nat) (h : i < l.length) (d : α) : l.getD i d = l[i] := by
 simp [List.getD_eq_getElem?_getD, List.getElem?_eq_getElem h]
theorem Xbk (a b c : Int) : Xat a b c = some (decide (b ≤ a ∧ a ≤ c)) := by
 unfold Xat
 by_cases h : b ≤ a <;> simp [bnd, sel, h]
theorem Xcm (a b c : Int) : Xba a b c = some (decide (b ≤ a ∧ a ≤ c)) := by
 unfold Xba
 by_cases h : b ≤ a <;> simp [bnd, sel, h]
theorem Xot {α : Type} (a : List α) (x y : α) (b : List α) : (a ++ x :: b).set a.length y = a ++ y :: b := by
 induction a with
 | nil => rfl
 | cons z a ih => simp only [List.cons_append, List.length_cons, List.set_cons_succ, ih]
theorem Xd4 {α : Type} (a : List α) (x d : α) (b : List α) : (a ++ x :: b).getD a.length d = x := by
 induction a with
 | nil => rfl
 | cons z a ih => simp
theorem Xne {α β : Type} (l : List α) (g : α → β) (d : α) (e : β) {f : (Int × List β) → Option (Lp (Int × List β) (List β))}
  (h : ∀ (i : Nat) (o : List β), i < l.length → o.length = l.length → f ((i : Int), o) = some (.go (((i + 1 : Nat) : Int), o.set i (g (l.getD i d))))) (h0 : ∀ o, f ((l.length : Int), o) = some (.done o)) : loop f (0, List.replicate l.length e) = some (l.map g) := by
 have key : ∀ (r a : List α), l = a ++ r → loop f ((a.length : Int), a.map g ++ List.replicate r.length e) = some (l.map g) := by
  intro r
  induction r with
  | nil =>
   intro a ha
   rw [List.append_nil] at ha
   subst ha
   rw [Xch (h0 _)]; simp
  | cons x r ih =>
   intro a ha
   have hlen : a.length < l.length := by rw [ha]; simp
   rw [Xbm (h a.length _ hlen (by rw [ha]; simp))]
   have e1 : l.getD a.length d = x := by rw [ha]; exact Xd4 a x d r
   have e2 : (a.map g ++ List.replicate (x :: r).length e).set a.length (g x) = (a ++ [x]).map g ++ List.replicate r.length e := by
    have := Xot (a.map g) e (g x) (List.replicate r.length e)
    rw [List.length_map] at this
    rw [List.length_cons, List.replicate_succ, this]
    simp
   rw [e1, e2]
   have := ih (a ++ [x]) (by rw [ha]; simp)
   rw [List.length_append, List.length_singleton] at this
   exact this
 exact key l [] rfl
theorem Xn5 {f : Int → Option (Lp Int (Ou Unit Bool))} (n : Nat) (h : ∀ i : Nat, i < n → f i = some (.go ((i + 1 : Nat) : Int))) (h0 : f n = some (.done (.out ()))) : loop f 0 = some (.out ()) :=
 Xqv (P := fun i => loop f (i : Int) = some (.out ())) n (Xch h0) (fun i hi ih => by rw [Xbm (h i hi)]; exact ih) 0 (by omega)
theorem Xs8 {α : Type} (l : List α) (k : Nat) : (l.drop k).take (l.length - k) = l.drop k := List.take_of_length_le (by rw [List.length_drop]; omega)
theorem Xia (l : List Int) (hl : l.length ≤ 9223372036854775806) : Xdv l l = some true := by
 unfold Xdv
 rw [Xcw (by simp), Xn5 l.length (f := Xby l l) (by
  intro i hi
  unfold Xby
  rw [syA, rqA, rqA, Xcw (by simp), wkA]
  rfl) (by unfold Xby; rw [snA])]
 rfl
theorem Xay (a b : List Int) : strOfNums a ++ strOfNums b = strOfNums (a ++ b) := by
 unfold strOfNums
 rw [List.map_append]
 apply ByteArray.ext
 simp
theorem Xtm : (⟨#[]⟩ : ByteArray) = strOfNums [] := rfl
def Xtz (l : List Int) : Prop := ∀ x ∈ l, 0 ≤ x ∧ x ≤ 255
theorem Xdm (l : List Int) (h : Xtz l) : Xaj (strOfNums l) = l := by
 unfold Xaj
 rw [strOfNums_data, List.map_map]
 have : ∀ x ∈ l, ((fun b : UInt8 => (b.toNat : Int)) ∘ fun n : Int => UInt8.ofNat n.toNat) x = x := by
  intro x hx
  have := h x hx
  simp only [Function.comp_apply, UInt8.toNat_ofNat']
  omega
 rw [List.map_congr_left this, List.map_id']
theorem Xuo (y : Int) : IntKind.wrap .i64 (BitVec.ofInt (IntKind.bits .i64) y &&& BitVec.ofInt (IntKind.bits .i64) 1).toNat = y % 2 := by
 have h : (BitVec.ofInt 64 y &&& BitVec.ofInt 64 1).toNat = (y % 2).toNat := by
  rw [BitVec.toNat_and]
  have e1 : (BitVec.ofInt 64 1).toNat = 1 := by decide
  rw [e1, Nat.and_one_is_mod, BitVec.toNat_ofInt]
  omega
 show IntKind.wrap .i64 ((BitVec.ofInt 64 y &&& BitVec.ofInt 64 1).toNat : Int) = _
 rw [h, ← Xgw, wkA]
 omega
def Xsu : Nat → Int → List Int
 | 0, _ => []
 | w + 1, n => Xsu w (n / 2) ++ [48 + n % 2]
def Xqg (l : List Int) : Prop := ∀ x ∈ l, x = 48 ∨ x = 49
theorem Xar {a b : List Int} (ha : Xqg a) (hb : Xqg b) : Xqg (a ++ b) := fun x hx => (List.mem_append.1 hx).elim (ha x) (hb x)
theorem Xr2 (n : Nat) : Xqg (List.replicate n 48) := fun x hx => .inl (List.eq_of_mem_replicate hx)
theorem Xca {l : List Int} (h : Xqg l) : Xtz l := fun x hx => by rcases h x hx with e | e <;> omega
theorem Xiq : Xqg [] := fun x hx => by simp at hx
theorem Xp7 (w : Nat) : ∀ (k : Nat) (n : Int) (s : List Int), 0 ≤ n → n ≤ 9223372036854775807 → k + s.length ≤ 100000 → loop Xcf (n, (k : Int) - 1, List.replicate k 0 ++ s) = some (Xsu k n ++ s) := by
 intro k
 induction k with
 | zero =>
  intro n s h0 h1 hl
  refine Xhq ?_
  unfold Xcf
  simp only
  rw [snA]
  simp [Xsu]
 | succ k ih =>
  intro n s h0 h1 hl
  have e1 : List.replicate (k + 1) (0 : Int) ++ s = List.replicate k 0 ++ 0 :: s := by rw [List.replicate_succ', List.append_assoc]; rfl
  have e2 := Xot (List.replicate k (0 : Int)) 0 (48 + n % 2) s
  rw [List.length_replicate] at e2
  refine lgo (y := (n / 2, (k : Int) - 1, List.replicate k 0 ++ (48 + n % 2) :: s)) ?_ ?_
  ·
   unfold Xcf
   have e3 : (((k + 1 : Nat) : Int) - 1).toNat = k := by omega
   simp only [e1, e3]
   rw [syA, Xcq (by simp; omega), Xcq (by simp), Xcq (by decide), Xuo, wkA (e := 48 + n % 2), w8 (by omega) (by omega), e2, wkA]
   rw [show ((k + 1 : Nat) : Int) - 1 - 1 = (k : Int) - 1 by omega]
   rfl
  ·
   rw [ih (n / 2) ((48 + n % 2) :: s) (by omega) (by omega) (by simp; omega), Xsu, List.append_assoc]; rfl
theorem Xmj (n : Int) (w : Nat) (h0 : 0 ≤ n) (h1 : n ≤ 9223372036854775807) (hw : w ≤ 1000) : Xei n (w : Int) = some (strOfNums (Xsu w n)) := by
 unfold Xei
 rw [rqA, wkA, Int.toNat_natCast]
 have := Xp7 w w n [] h0 h1 (by simp; omega)
 rw [List.append_nil, List.append_nil] at this
 rw [this, Xai]
def Xir (m : Nat) : Nat := if h : m = 0 then 0 else Xir (m / 2) + 1
termination_by m
decreasing_by omega
def Xqf (m : Nat) : List Int := if h : m = 0 then [] else Xqf (m / 2) ++ [48 + ((m % 2 : Nat) : Int)]
termination_by m
decreasing_by omega
theorem Xo5 (m : Nat) : (Xqf m).length = Xir m := by
 induction m using Nat.strongRecOn with
 | _ m ih =>
  rw [Xqf, Xir]
  by_cases h : m = 0
  ·
   rw [dif_pos h, dif_pos h]; rfl
  ·
   rw [dif_neg h, dif_neg h, List.length_append, ih (m / 2) (by omega)]; rfl
theorem Xog {m j : Nat} (h : m < 2 ^ j) : Xir m ≤ j := by
 induction j generalizing m with
 | zero => rw [Xir, dif_pos (by simp at h; omega)]; omega
 | succ j ih =>
  rw [Xir]
  split
  ·
   omega
  ·
   have := ih (m := m / 2) (by rw [Nat.pow_succ] at h; omega)
   omega
theorem Xma {m : Nat} (h : 0 < m) : 1 ≤ Xir m := by rw [Xir, dif_neg (by omega)]; omega
theorem Xr1 (m : Nat) : Xqg (Xqf m) := by
 induction m using Nat.strongRecOn with
 | _ m ih =>
  rw [Xqf]
  by_cases h : m = 0
  ·
   rw [dif_pos h]; exact Xiq
  ·
   rw [dif_neg h]; exact Xar (ih (m / 2) (by omega)) (fun x hx => by rw [List.mem_singleton.1 hx]; omega)
theorem Xr4 (z m : Nat) : Xsu (Xir m + z) m = List.replicate z 48 ++ Xqf m := by
 induction m using Nat.strongRecOn with
 | _ m ih =>
  rw [Xqf, Xir]
  by_cases h : m = 0
  ·
   rw [dif_pos h, dif_pos h, h, List.append_nil, Nat.zero_add]
   clear ih h
   induction z with
   | zero => rfl
   | succ z iz => rw [Xsu, show ((0 : Nat) : Int) / 2 = ((0 : Nat) : Int) from rfl, iz, List.replicate_succ']; rfl
  ·
   rw [dif_neg h, dif_neg h, show Xir (m / 2) + 1 + z = Xir (m / 2) + z + 1 by omega, Xsu, show (m : Int) / 2 = ((m / 2 : Nat) : Int) by omega, ih (m / 2) (by omega), List.append_assoc, show (m : Int) % 2 = ((m % 2 : Nat) : Int) by omega]
def ueL (n : Nat) : List Int := List.replicate (Xir (n + 1) - 1) 48 ++ Xqf (n + 1)
theorem Xcp (n : Nat) : Xqg (ueL n) := Xar (Xr2 _) (Xr1 _)
theorem Xc2 (n : Nat) (h : n ≤ 1000000) : (ueL n).length ≤ 39 ∧ 1 ≤ (ueL n).length := by
 unfold ueL
 rw [List.length_append, List.length_replicate, Xo5]
 have := Xog (m := n + 1) (j := 20) (by omega)
 have := Xma (m := n + 1) (by omega)
 omega
theorem Xkr : ∀ (m : Nat) (k : Int), 0 ≤ k → k ≤ 1000 → m ≤ 9223372036854775807 → loop Xam ((m : Int), k) = some (k + Xir m) := by
 have main : ∀ (j m : Nat) (k : Int), m < 2 ^ j → j ≤ 63 → 0 ≤ k → k + j ≤ 2000 → loop Xam ((m : Int), k) = some (k + Xir m) := by
  intro j
  induction j with
  | zero =>
   intro m k hm _ _ _
   have : m = 0 := by simp at hm; omega
   subst this
   refine Xhq ?_
   unfold Xam
   simp only
   rw [snA, Xir, dif_pos rfl]; simp
  | succ j ih =>
   intro m k hm hj h0 h1
   by_cases h : m = 0
   ·
    subst h
    refine Xhq ?_
    unfold Xam
    simp only
    rw [snA, Xir, dif_pos rfl]; simp
   ·
    refine lgo (y := (((m / 2 : Nat) : Int), k + 1)) ?_ ?_
    ·
     unfold Xam
     simp only
     rw [syA, Xcq (by decide), wkA]
     show some (Lp.go ((m : Int) / 2, k + 1)) = _
     congr 3
    ·
     rw [ih (m / 2) (k + 1) (by rw [Nat.pow_succ] at hm; omega) (by omega) (by omega) (by omega), Xir.eq_def m, dif_neg h]
     congr 1; omega
 intro m k h0 h1 hm
 exact main 63 m k (by omega) (by omega) h0 (by omega)
theorem Xdq (n : Nat) (h : n ≤ 1000000) : Xdu (n : Int) = some (strOfNums (ueL n)) := by
 unfold Xdu Xc3
 rw [wkA (e := (n : Int) + 1)]
 have := Xkr (n + 1) 0 (by omega) (by omega) (by omega)
 rw [show ((n + 1 : Nat) : Int) = (n : Int) + 1 by omega, Int.zero_add] at this
 rw [this, Xai, Xai]
 have h1 := Xog (m := n + 1) (j := 20) (by omega)
 have h2 := Xma (m := n + 1) (by omega)
 rw [wkA (e := 2 * (Xir (n + 1) : Int)), wkA, show 2 * (Xir (n + 1) : Int) - 1 = ((Xir (n + 1) + (Xir (n + 1) - 1) : Nat) : Int) by omega, Xmj _ _ (by omega) (by omega) (by omega), Xai,
  show (n : Int) + 1 = ((n + 1 : Nat) : Int) by omega, Xr4]
 rfl
theorem Xkb (n : Nat) (x : Int) (h : n ≤ 1000000000) : Xc9 (n : Int) x = some (strOfNums (List.replicate n x)) := by
 unfold Xc9
 rw [rqA, Int.toNat_natCast]
 have key : ∀ (k a : Nat), k + a = n → loop (Xbq (n : Int) x) ((a : Int), List.replicate a x ++ List.replicate k 0) = some (List.replicate n x) := by
  intro k
  induction k with
  | zero =>
   intro a ha
   refine Xhq ?_
   unfold Xbq
   simp only
   rw [snA]
   simp; omega
  | succ k ih =>
   intro a ha
   have e2 := Xot (List.replicate a x) 0 x (List.replicate k 0)
   rw [List.length_replicate] at e2
   refine lgo (y := (((a + 1 : Nat) : Int), List.replicate (a + 1) x ++ List.replicate k 0)) ?_ (ih (a + 1) (by omega))
   unfold Xbq
   simp only [List.replicate_succ (n := k), Int.toNat_natCast]
   rw [syA, Xcq (by simp; omega), Xcq (by simp), e2, wkA, List.replicate_succ' (n := a), List.append_assoc]
   rfl
 have := key n 0 rfl
 rw [List.replicate_zero, List.nil_append] at this
 exact Xl7 this
theorem Xco (n : Nat) (h : n ≤ 1000000) : Xbl (n : Int) = some (strOfNums (ueL n)) := by
 have main : ∀ (j m : Nat) (s : List Int), m < 2 ^ j → j ≤ 63 → s.length + j ≤ 1000 → loop Xbt ((m : Int), strOfNums s) = some (strOfNums (Xqf m ++ s)) := by
  intro j
  induction j with
  | zero =>
   intro m s hm _ _
   have : m = 0 := by simp at hm; omega
   subst this
   refine Xhq ?_
   unfold Xbt
   simp only
   rw [snA, Xqf, dif_pos rfl]; rfl
  | succ j ih =>
   intro m s hm hj hl
   by_cases h : m = 0
   ·
    subst h
    refine Xhq ?_
    unfold Xbt
    simp only
    rw [snA, Xqf, dif_pos rfl]; rfl
   ·
    have hlt : (m : Int) < 2 ^ (j + 1) := by exact_mod_cast hm
    have hle : (2 : Int) ^ (j + 1) ≤ 2 ^ 63 := by
     have := Nat.pow_le_pow_right (n := 2) (by omega) hj
     exact_mod_cast this
    have hbd : (m : Int) < 9223372036854775808 := Int.lt_of_lt_of_le hlt (by simpa using hle)
    refine lgo (y := (((m / 2 : Nat) : Int), strOfNums ((48 + ((m % 2 : Nat) : Int)) :: s))) ?_ ?_
    ·
     unfold Xbt
     simp only
     rw [syA, Xcq (by decide), Xsm (by omega), Xsj (by omega), wkA (e := 48 + (m : Int) % 2), w8 (by omega) (by omega), Xcq (by simp only [strOfNums_size, List.length_singleton]; omega), Xcq (by decide), wkA, Xay]
     congr 3
    ·
     rw [ih (m / 2) _ (by rw [Nat.pow_succ] at hm; omega) (by omega) (by simp; omega)]
     conv => rhs; rw [Xqf, dif_neg h]
     rw [List.append_assoc]; rfl
 unfold Xbl
 have h1 := Xog (m := n + 1) (j := 20) (by omega)
 have h2 := Xma (m := n + 1) (by omega)
 rw [wkA (e := (n : Int) + 1), Xtm, show (n : Int) + 1 = ((n + 1 : Nat) : Int) by omega, main 63 (n + 1) [] (by omega) (by omega) (by simp), Xai, List.append_nil, strOfNums_size, Xo5, wkA, show (Xir (n + 1) : Int) - 1 = ((Xir (n + 1) - 1 : Nat) : Int) by omega, Xkb _ _ (by omega), Xai,
  Xcq (by simp only [strOfNums_size, List.length_replicate]; omega), Xay]
 rfl
theorem Xk4 (l : List Int) (hl : l.length ≤ 1048576) : Xdy l = some l := by
 unfold Xdy
 rw [rqA, Int.toNat_natCast]
 have := Xne l (fun p : Int => p) 0 (0 : Int) (f := Xb1 l) (by
  intro i o hi ho
  unfold Xb1
  simp only
  rw [syA, rqA, rqA, rqA, wkA]
  rfl) (by
  intro o; unfold Xb1; simp only; rw [snA])
 rw [this, Xai, List.map_id']
theorem Xk2 (l : List Int) (m : Int) (hl : l.length ≤ maxLen) (h0 : 0 ≤ m) (h1 : m ≤ 1048576) : Xdw l m = some (if m < l.length then -1 else m - l.length) := by
 have hm : maxLen = 9223372036854775807 := rfl
 unfold Xdw
 rw [wkA, Xrf]
 by_cases h : m < l.length
 ·
  rw [if_pos h, if_pos (by omega)]
 ·
  rw [if_neg h, if_neg (by omega)]
def Xni (n : Int) : Nat := if n > 0 then (2 * n - 1).toNat else (-2 * n).toNat
theorem Xfm (n : Int) (h : -500000 ≤ n ∧ n ≤ 500000) : Xcr n = some ((Xni n : Int), true) := by
 unfold Xcr Xni
 rw [Xbk, Xai, Xn4, Xj1 h, Xrf, wkA (e := 2 * n), wkA, wkA]
 split
 ·
  rw [Int.toNat_of_nonneg (by omega)]
 ·
  rw [Int.toNat_of_nonneg (by omega)]
theorem Xlb (n : Int) (h : -500000 ≤ n ∧ n ≤ 500000) : Xd1 n = some ((Xni n : Int), true) := by
 unfold Xd1 Xni
 rw [Xcm, Xai, Xn4, Xj1 h, Xrf, wkA (e := 2 * n), wkA, wkA]
 split
 ·
  rw [Int.toNat_of_nonneg (by omega)]
 ·
  rw [Int.toNat_of_nonneg (by omega)]
theorem Xis (n : Int) (h : -500000 ≤ n ∧ n ≤ 500000) : Xni n ≤ 1000000 := by unfold Xni; split <;> omega
def seL (n : Int) : List Int := ueL (Xni n)
theorem Xev (n : Int) (h : -500000 ≤ n ∧ n ≤ 500000) : (seL n).length ≤ 39 := (Xc2 _ (Xis n h)).1
theorem Xex (n : Int) (h : -500000 ≤ n ∧ n ≤ 500000) : Xcy n = some (strOfNums (seL n)) := by
 unfold Xcy
 rw [Xlb n h, Xai, Xco _ (Xis n h), Xai]; rfl
theorem Xge (n : Int) (h : -500000 ≤ n ∧ n ≤ 500000) : Xdo n = some (strOfNums (seL n), true) := by
 have := Xis n h
 unfold Xdo
 rw [Xfm n h, Xai, Xn4, Xrh]
 unfold Xfb
 rw [Xbk, Xai, Xn4, syA, Xdq _ this, Xai, Xai]; rfl
def Xom (x : Int) : Bool := decide (-5000 ≤ x ∧ x ≤ 5000)
theorem Xmr {x : Int} : Xom x = true ↔ -5000 ≤ x ∧ x ≤ 5000 := by simp [Xom]
def nz : List Int → Nat
 | [] => 0
 | x :: r => if x = 0 then nz r else nz r + 1
theorem Xsa : ∀ l : List Int, nz l ≤ l.length
 | [] => by simp [nz]
 | x :: r => by rw [nz, List.length_cons]; have := Xsa r; split <;> omega
def Xfk : Nat → List Int → List Int
 | _, [] => []
 | g, x :: r => if x = 0 then Xfk (g + 1) r else ueL g ++ seL x ++ Xfk 0 r
def Xf7 (l : List Int) : List Int := ueL (nz l) ++ Xfk 0 l
theorem Xjz : ∀ (l : List Int) (g : Nat), Xqg (Xfk g l)
 | [], _ => Xiq
 | x :: r, g => by
  rw [Xfk]
  split
  ·
   exact Xjz r _
  ·
   exact Xar (Xar (Xcp _) (Xcp _)) (Xjz r _)
theorem Xgu : ∀ (l : List Int) (g : Nat), l.all Xom = true → g + l.length ≤ 1000 → (Xfk g l).length ≤ 78 * l.length
 | [], _, _, _ => by simp [Xfk]
 | x :: r, g, h, hg => by
  rw [List.all_cons, Bool.and_eq_true, Xmr] at h
  rw [List.length_cons] at hg ⊢
  rw [Xfk]
  split
  ·
   have := Xgu r (g + 1) h.2 (by omega); omega
  ·
   have := Xgu r 0 h.2 (by omega)
   have a := Xc2 g (by omega)
   have b := Xev x (by omega)
   simp only [List.length_append]; omega
theorem Xe7 (l : List Int) : Xqg (Xf7 l) := Xar (Xcp _) (Xjz _ _)
theorem Xa9 (l : List Int) (h : l.all Xom = true) (hl : l.length ≤ 64) : (Xf7 l).length ≤ 39 + 78 * l.length := by
 have := Xgu l 0 h (by omega)
 have := Xsa l
 have := Xc2 (nz l) (by omega)
 unfold Xf7; rw [List.length_append]; omega
theorem Xbs (l : List Int) (h : l.all Xom = true) (hl : l.length ≤ 64) : Xa1 l = some (strOfNums (Xf7 l)) := by
 unfold Xa1
 have key : ∀ (r a : List Int) (n g : Nat) (s : List Int), l = a ++ r → n ≤ a.length → g ≤ a.length → s.length ≤ 78 * a.length → loop (Xbb l) ((n : Int), (g : Int), strOfNums s, (a.length : Int)) = some (((n + nz r : Nat) : Int), strOfNums (s ++ Xfk g r)) := by
  intro r
  induction r with
  | nil =>
   intro a n g s ha _ _ _
   rw [List.append_nil] at ha
   refine Xhq ?_
   unfold Xbb
   simp only
   rw [Xgv (by rw [ha]; omega), nz, Xfk, List.append_nil]; rfl
  | cons x r ih =>
   intro a n g s ha hn hg hs
   have hlen : a.length < l.length := by rw [ha]; simp
   have hx : l.getD a.length 0 = x := by rw [ha]; exact Xd4 a x _ r
   have hxi : -5000 ≤ x ∧ x ≤ 5000 := Xmr.1 (List.all_eq_true.1 h x (by rw [ha]; simp))
   by_cases e : x = 0
   ·
    have hnext := ih (a ++ [x]) n (g + 1) s (by rw [ha]; simp) (by simp; omega) (by simp; omega) (by simp; omega)
    rw [List.length_append, List.length_singleton] at hnext
    rw [nz, Xfk, if_pos e, if_pos e, ← hnext]
    refine Xbm ?_
    unfold Xbb
    simp only [Int.toNat_natCast, hx]
    rw [syA, rqA, Xec (by simpa using e), Xai, wkA, wkA]
    rfl
   ·
    have u1 := Xc2 g (by omega)
    have u2 := Xev x (by omega)
    have hnext := ih (a ++ [x]) (n + 1) 0 (s ++ ueL g ++ seL x) (by rw [ha]; simp) (by simp; omega) (by omega) (by simp only [List.length_append, List.length_singleton]; omega)
    rw [List.length_append, List.length_singleton] at hnext
    rw [nz, Xfk, if_neg e, if_neg e, show n + (nz r + 1) = n + 1 + nz r by omega, ← List.append_assoc, ← List.append_assoc, ← hnext]
    refine Xbm ?_
    unfold Xbb
    simp only [Int.toNat_natCast, hx]
    rw [syA, rqA, Xcw (by simpa using e), Xco g (by omega), Xai, Xcq (by simp only [strOfNums_size]; omega), rqA, Xex x (by omega), Xai, Xay, Xcq (by simp only [strOfNums_size, List.length_append]; omega), Xay, Xai, wkA, wkA]
    rfl
 have := key l [] 0 0 [] rfl (by omega) (by omega) (by simp)
 refine (Xl7 this).trans ?_
 have hz := Xsa l
 have u := Xc2 (nz l) (by omega)
 have b := Xgu l 0 h (by omega)
 simp only [Nat.zero_add, List.nil_append]
 rw [Xco _ (by omega), Xai, Xcq (by simp only [strOfNums_size]; omega), Xay]
 rfl
theorem Xh1 (l : List Int) (h : l.all Xom = true) (hl : l.length ≤ 64) : Xeh l = some (Xf7 l) := by
 have hm : maxLen = 9223372036854775807 := rfl
 unfold Xeh
 have k1 : ∀ (r a : List Int) (n : Nat), l = a ++ r → n ≤ a.length → loop (Xb6 l) ((n : Int), (a.length : Int)) = some ((n + nz r : Nat) : Int) := by
  intro r
  induction r with
  | nil =>
   intro a n ha _
   rw [List.append_nil] at ha
   refine Xhq ?_
   unfold Xb6
   simp only
   rw [Xgv (by rw [ha]; omega)]; rfl
  | cons x r ih =>
   intro a n ha hn
   have hlen : a.length < l.length := by rw [ha]; simp
   have hx : l.getD a.length 0 = x := by rw [ha]; exact Xd4 a x _ r
   by_cases e : x = 0
   ·
    have hnext := ih (a ++ [x]) n (by rw [ha]; simp) (by simp; omega)
    rw [List.length_append, List.length_singleton] at hnext
    rw [nz, if_pos e, ← hnext]
    refine Xbm ?_
    unfold Xb6
    simp only [Int.toNat_natCast, hx]
    rw [syA, rqA, Xcw (by simpa using e), Xai, wkA]
    rfl
   ·
    have hnext := ih (a ++ [x]) (n + 1) (by rw [ha]; simp) (by simp; omega)
    rw [List.length_append, List.length_singleton] at hnext
    rw [nz, if_neg e, show n + (nz r + 1) = n + 1 + nz r by omega, ← hnext]
    refine Xbm ?_
    unfold Xb6
    simp only [Int.toNat_natCast, hx]
    rw [syA, rqA, Xec (by simpa using e), Xai, wkA, wkA]
    rfl
 refine (Xl7 (k1 l [] 0 rfl (by omega))).trans ?_
 have hz := Xsa l
 have u := Xc2 (nz l) (by omega)
 simp only [Nat.zero_add]
 rw [Xdq _ (by omega), Xai, Xdm _ (Xca (Xcp _)), Xcq (by simp only [List.length_nil]; omega), List.nil_append]
 have key : ∀ (r a : List Int) (g : Nat) (s : List Int), l = a ++ r → g ≤ a.length → s.length ≤ 39 + 78 * a.length → loop (Xb7 l) ((g : Int), (a.length : Int), s) = some (s ++ Xfk g r) := by
  intro r
  induction r with
  | nil =>
   intro a g s ha _ _
   rw [List.append_nil] at ha
   refine Xhq ?_
   unfold Xb7
   simp only
   rw [Xgv (by rw [ha]; omega), Xfk, List.append_nil]
  | cons x r ih =>
   intro a g s ha hg hs
   have hlen : a.length < l.length := by rw [ha]; simp
   have hx : l.getD a.length 0 = x := by rw [ha]; exact Xd4 a x _ r
   have hxi : -5000 ≤ x ∧ x ≤ 5000 := Xmr.1 (List.all_eq_true.1 h x (by rw [ha]; simp))
   by_cases e : x = 0
   ·
    have hnext := ih (a ++ [x]) (g + 1) s (by rw [ha]; simp) (by simp; omega) (by simp; omega)
    rw [List.length_append, List.length_singleton] at hnext
    rw [Xfk, if_pos e, ← hnext]
    refine Xbm ?_
    unfold Xb7
    simp only [Int.toNat_natCast, hx]
    rw [syA, rqA, Xec (by simpa using e), Xai, wkA, wkA]
    rfl
   ·
    have u1 := Xc2 g (by omega)
    have u2 := Xev x (by omega)
    have hnext := ih (a ++ [x]) 0 (s ++ ueL g ++ seL x) (by rw [ha]; simp) (by omega) (by simp only [List.length_append, List.length_singleton]; omega)
    rw [List.length_append, List.length_singleton] at hnext
    rw [Xfk, if_neg e, ← List.append_assoc, ← List.append_assoc, ← hnext]
    refine Xbm ?_
    unfold Xb7
    simp only [Int.toNat_natCast, hx]
    rw [syA, rqA, Xcw (by simpa using e), Xfm x (by omega), Xai, Xdq g (by omega), Xai, Xdm _ (Xca (Xcp _)), rqA, Xdq _ (Xis x (by omega)), Xai, Xdm _ (Xca (Xcp _)), Xcq (by rw [List.length_append]; have : (seL x).length = (ueL (Xni x)).length := rfl; omega), Xai, wkA]
    rfl
 exact Xl7 (key l [] 0 (ueL (nz l)) rfl (by omega) (by simp; omega))
def Xp0 (l : List Int) : Bool := decide (l.length = 64) && l.all Xom
theorem Xo0 (p : Int → Bool) (l : List Int) (f : Int → Option (Lp Int (Ou Unit Bool))) (h : ∀ i : Nat, i < l.length → f (i : Int) = sel (!(p (l.getD i 0))) (some (.done (.ret false))) (some (.go ((i + 1 : Nat) : Int)))) (h0 : f (l.length : Int) = some (.done (.out ()))) :
  loop f 0 = some (if l.all p = true then .out () else .ret false) := by
 have key : ∀ (r a : List Int), l = a ++ r → loop f (a.length : Int) = some (if r.all p = true then .out () else .ret false) := by
  intro r
  induction r with
  | nil => intro a ha; rw [List.append_nil] at ha; rw [← ha, Xch h0]; rfl
  | cons x r ih =>
   intro a ha
   have hlen : a.length < l.length := by rw [ha]; simp
   have hx : l.getD a.length 0 = x := by rw [ha]; exact Xd4 a x _ r
   have hs := h a.length hlen
   rw [hx] at hs
   cases e : p x with
   | true =>
    rw [e] at hs
    have := ih (a ++ [x]) (by rw [ha]; simp)
    rw [List.length_append, List.length_singleton] at this
    rw [Xbm hs, this, List.all_cons, e, Bool.true_and]
   | false => rw [e] at hs; rw [Xch hs, List.all_cons, e, Bool.false_and]; rfl
 exact key l [] rfl
theorem Xli (l : List Int) : Xcz l 64 5000 = some (Xp0 l) := by
 unfold Xcz Xp0
 by_cases h : l.length = 64
 ·
  rw [Xcw (by simp only [bne_eq_false_iff_eq]; omega), Xo0 Xom l (Xb2 l 64 5000) (by
   intro i hi
   unfold Xb2
   rw [syA, rqA, wkA (e := 0 - 5000), Xcm, Xai, wkA, Int.toNat_natCast]
   rfl) (by unfold Xb2; rw [snA]), Xai, decide_eq_true h, Bool.true_and]
  cases l.all Xom <;> rfl
 ·
  rw [Xec (by simp only [bne_iff_ne, ne_eq]; omega), decide_eq_false h, Bool.false_and]
theorem Xmf (l : List Int) (n lo hi : Int) (hl : l.length ≤ 9223372036854775806) : Xed l n lo hi = some (l.all (fun x => decide (lo ≤ x ∧ x ≤ hi)) && ((l.length : Int) == n)) := by
 unfold Xed
 rw [Xo0 (fun x => decide (lo ≤ x ∧ x ≤ hi)) l (Xce l lo hi) (by
   intro i hi
   unfold Xce
   rw [syA, rqA, Xbk, Xai, wkA, Int.toNat_natCast]
   rfl) (by unfold Xce; rw [snA]), Xai]
 cases l.all (fun x => decide (lo ≤ x ∧ x ≤ hi)) <;> rfl
theorem Xhe (l : List Int) (hl : l.length ≤ 9223372036854775806) : Xbi l = some (Xp0 l) := by
 unfold Xbi Xp0
 rw [Xmf l _ _ _ hl, Xai]
 show some (l.all Xom && ((l.length : Int) == 64)) = _
 have : ((l.length : Int) == 64) = decide (l.length = 64) := by rw [Bool.eq_iff_iff]; simp only [beq_iff_eq, decide_eq_true_eq]; omega
 rw [this, Bool.and_comm]
theorem Xhr {l : List Int} (h : Xp0 l = true) : l.length = 64 ∧ l.all Xom = true := by
 unfold Xp0 at h; rw [Bool.and_eq_true, decide_eq_true_eq] at h; exact h
def Xrs (l : List Int) (c : Cond) : List Int := if (c.Large || c.Exact) = true then Xf7 l else Xf7 (l.take 16) ++ Xf7 ((l.drop 16).take 16) ++ Xf7 ((l.drop 32).take 16) ++ Xf7 (l.drop 48)
theorem Xbo {l : List Int} (h : l.all Xom = true) (n : Nat) : (l.take n).all Xom = true := List.all_eq_true.2 fun x hx => List.all_eq_true.1 h x (List.mem_of_mem_take hx)
theorem Xbn {l : List Int} (h : l.all Xom = true) (n : Nat) : (l.drop n).all Xom = true := List.all_eq_true.2 fun x hx => List.all_eq_true.1 h x (List.mem_of_mem_drop hx)
theorem Xpi (l : List Int) (c : Cond) : Xqg (Xrs l c) := by
 unfold Xrs
 split
 ·
  exact Xe7 l
 ·
  exact Xar (Xar (Xar (Xe7 _) (Xe7 _)) (Xe7 _)) (Xe7 _)
theorem Xfe {l : List Int} {c : Cond} (h : Xp0 l = true) : (Xrs l c).length ≤ 5148 := by
 obtain ⟨h1, h2⟩ := Xhr h
 unfold Xrs
 split
 ·
  have := Xa9 l h2 (by omega); omega
 ·
  have a := Xa9 (l.take 16) (Xbo h2 _) (by rw [List.length_take]; omega)
  have b := Xa9 ((l.drop 16).take 16) (Xbo (Xbn h2 _) _) (by rw [List.length_take, List.length_drop]; omega)
  have c := Xa9 ((l.drop 32).take 16) (Xbo (Xbn h2 _) _) (by rw [List.length_take, List.length_drop]; omega)
  have d := Xa9 (l.drop 48) (Xbn h2 _) (by rw [List.length_drop]; omega)
  rw [List.length_take] at a
  rw [List.length_take, List.length_drop] at b c
  rw [List.length_drop] at d
  simp only [List.length_append]; omega
theorem Xft (l : List Int) (c : Cond) (h : Xp0 l = true) : Xc0 l c = some (strOfNums (Xrs l c)) := by
 obtain ⟨h1, h2⟩ := Xhr h
 unfold Xc0 Xrs
 rw [Xs0, Xai]
 by_cases e : (c.Large || c.Exact) = true
 ·
  rw [Xec e, if_pos e, Xbs l h2 (by omega), Xai]
 ·
  rw [Xcw (by simpa using e), if_neg e]
  have a := Xa9 (l.take 16) (Xbo h2 _) (by rw [List.length_take]; omega)
  have b := Xa9 ((l.drop 16).take 16) (Xbo (Xbn h2 _) _) (by rw [List.length_take, List.length_drop]; omega)
  have c := Xa9 ((l.drop 32).take 16) (Xbo (Xbn h2 _) _) (by rw [List.length_take, List.length_drop]; omega)
  have d := Xa9 (l.drop 48) (Xbn h2 _) (by rw [List.length_drop]; omega)
  have s1 := Xbs (l.take 16) (Xbo h2 _) (by rw [List.length_take]; omega)
  have s2 := Xbs ((l.drop 16).take 16) (Xbo (Xbn h2 _) _) (by rw [List.length_take, List.length_drop]; omega)
  have s3 := Xbs ((l.drop 32).take 16) (Xbo (Xbn h2 _) _) (by rw [List.length_take, List.length_drop]; omega)
  have s4 := Xbs (l.drop 48) (Xbn h2 _) (by rw [List.length_drop]; omega)
  rw [List.length_take] at a
  rw [List.length_take, List.length_drop] at b c
  rw [List.length_drop] at d
  rw [show ((16 : Int).toNat - (0 : Int).toNat) = 16 from rfl, show (0 : Int).toNat = 0 from rfl, List.drop_zero, show ((32 : Int).toNat - (16 : Int).toNat) = 16 from rfl, show (16 : Int).toNat = 16 from rfl, show ((48 : Int).toNat - (32 : Int).toNat) = 16 from rfl, show (32 : Int).toNat = 32 from rfl, show (48 : Int).toNat = 48 from rfl, Int.toNat_natCast, Xs8]
  rw [rqA, s1, Xai, rqA, s2, Xai, Xcq (by simp only [strOfNums_size]; omega), rqA, s3, Xai, Xay, Xcq (by simp only [strOfNums_size, List.length_append]; omega), rqA, s4, Xai, Xay, Xcq (by simp only [strOfNums_size, List.length_append]; omega), Xay]
theorem Xeg (l : List Int) (c : Cond) (h : Xp0 l = true) : Xbj l c = some (Xrs l c) := by
 have hm : maxLen = 9223372036854775807 := rfl
 obtain ⟨h1, h2⟩ := Xhr h
 unfold Xbj Xrs
 rw [Xs0, Xai]
 by_cases e : (c.Large || c.Exact) = true
 ·
  rw [Xec e, if_pos e, Xh1 l h2 (by omega), Xai]
 ·
  rw [Xcw (by simpa using e), if_neg e]
  have step : ∀ (n : Nat) (s : List Int), n < 4 → s.length ≤ 4000 → Xan l ((n : Int), s) = some (.go (((n + 1 : Nat) : Int), s ++ Xf7 ((l.drop (16 * n)).take 16))) := by
   intro n s hn hs
   have g := Xa9 ((l.drop (16 * n)).take 16) (Xbo (Xbn h2 _) _) (by rw [List.length_take, List.length_drop]; omega)
   rw [List.length_take, List.length_drop] at g
   unfold Xan
   simp only
   rw [syA, wkA (e := 16 * (n : Int)), wkA (e := 16 * (n : Int) + 16), rqA, show (16 * (n : Int)).toNat = 16 * n by omega, show (16 * (n : Int) + 16).toNat - 16 * n = 16 by omega, Xh1 _ (Xbo (Xbn h2 _) _) (by rw [List.length_take, List.length_drop]; omega), Xai, rqA, wkA]
   rfl
  have g0 := Xa9 ((l.drop (16 * 0)).take 16) (Xbo (Xbn h2 _) _) (by rw [List.length_take, List.length_drop]; omega)
  have g1 := Xa9 ((l.drop (16 * 1)).take 16) (Xbo (Xbn h2 _) _) (by rw [List.length_take, List.length_drop]; omega)
  have g2 := Xa9 ((l.drop (16 * 2)).take 16) (Xbo (Xbn h2 _) _) (by rw [List.length_take, List.length_drop]; omega)
  rw [List.length_take, List.length_drop] at g0 g1 g2
  have l4 : ∀ s, Xan l (((4 : Nat) : Int), s) = some (.done s) := by intro s; unfold Xan; simp only; rw [snA]
  have e : loop (Xan l) (((0 : Nat) : Int), []) = some ([] ++ Xf7 ((l.drop (16 * 0)).take 16) ++ Xf7 ((l.drop (16 * 1)).take 16) ++ Xf7 ((l.drop (16 * 2)).take 16) ++ Xf7 ((l.drop (16 * 3)).take 16)) := by
   rw [Xbm (step 0 [] (by omega) (by simp)), Xbm (step 1 _ (by omega) (by simp only [List.length_append, List.length_nil]; omega)), Xbm (step 2 _ (by omega) (by simp only [List.length_append, List.length_nil]; omega)), Xbm (step 3 _ (by omega) (by simp only [List.length_append, List.length_nil]; omega)), Xch (l4 _)]
  refine (Xl7 e).trans ?_
  rw [List.nil_append, show 16 * 0 = 0 from rfl, List.drop_zero, show (l.drop (16 * 3)).take 16 = l.drop 48 from List.take_of_length_le (by rw [List.length_drop]; omega)]
def Xey (c : Cond) : Bool := decide (0 ≤ c.Qp ∧ c.Qp ≤ 40) && !(c.Large && c.Exact)
theorem Xk9 (c : Cond) : Xd0 c = some (Xey c) := by
 unfold Xd0 Xey
 rw [Xcm, Xai, Xmz, Xmy, Xai]
 cases c.Large <;> cases c.Exact <;> rfl
theorem Xkt (c : Cond) : Xdt c = some (Xey c) := by
 unfold Xdt Xey
 rw [Xbk, Xai, Xmz, Xmy, Xai]
 cases c.Large <;> cases c.Exact <;> rfl
def Xiw (s : Square) : Bool :=
 if s.Kind = 0 then decide (s.Mode = 0 ∧ s.Dx = 0 ∧ s.Dy = 0 ∧ s.Levels.length = 0)
 else if s.Kind = 1 then decide (s.Mode = 0) && (decide (-16 ≤ s.Dx ∧ s.Dx ≤ 16) && (decide (-16 ≤ s.Dy ∧ s.Dy ≤ 16) && Xp0 s.Levels))
 else if s.Kind = 2 then decide (0 ≤ s.Mode ∧ s.Mode ≤ 3) && (decide (s.Dx = 0) && (decide (s.Dy = 0) && Xp0 s.Levels))
 else false
theorem Xqr (a b : Int) : (a == b) = decide (a = b) := by rw [Bool.eq_iff_iff]; simp
theorem Xii (s : Square) : Xcl s = some (Xiw s) := by
 unfold Xcl Xiw
 simp only [Xcm, Xli, Xai, Xmy, Xqr]
 simp only [Xrf]
 by_cases h0 : s.Kind = 0
 ·
  rw [if_pos h0, if_pos h0]; congr 1; rw [Bool.eq_iff_iff]; simp
 ·
  rw [if_neg h0, if_neg h0]
  by_cases h1 : s.Kind = 1
  ·
   rw [if_pos h1, if_pos h1]
  ·
   rw [if_neg h1, if_neg h1]
   by_cases h2 : s.Kind = 2
   ·
    rw [decide_eq_true h2, Bool.true_and, if_pos h2]
   ·
    rw [decide_eq_false h2, Bool.false_and, if_neg h2]
theorem Xh9 (s : Square) (hl : s.Levels.length ≤ 9223372036854775806) : Xcc s = some (Xiw s) := by
 unfold Xcc Xiw
 simp only [Xbk, Xhe _ hl, Xai, Xmy, Xqr]
 simp only [Xrf]
 by_cases h0 : s.Kind = 0
 ·
  rw [if_pos h0, if_pos h0]; congr 1; rw [Bool.eq_iff_iff]; simp
 ·
  rw [if_neg h0, if_neg h0]
  by_cases h1 : s.Kind = 1
  ·
   rw [if_pos h1, if_pos h1]
  ·
   rw [if_neg h1, if_neg h1]
   by_cases h2 : s.Kind = 2
   ·
    rw [decide_eq_true h2, Bool.true_and, if_pos h2]
   ·
    rw [decide_eq_false h2, Bool.false_and, if_neg h2]
def Xki (s : Square) (c : Cond) : Bool := !c.Key || s.Kind == 2
def sqL (s : Square) (c : Cond) : List Int :=
 (if c.Key = true then [] else ueL s.Kind.toNat) ++
 (if s.Kind = 1 then seL s.Dx ++ seL s.Dy ++ Xrs s.Levels c else if s.Kind = 2 then ueL s.Mode.toNat ++ Xrs s.Levels c else [])
theorem Xkj {s : Square} (h : Xiw s = true) : 0 ≤ s.Kind ∧ s.Kind ≤ 2 := by
 unfold Xiw at h
 repeat' split at h
 all_goals first | omega | simp at h
theorem Xm4 {s : Square} (h : Xiw s = true) (h1 : s.Kind = 1) : (-16 ≤ s.Dx ∧ s.Dx ≤ 16) ∧ (-16 ≤ s.Dy ∧ s.Dy ≤ 16) ∧ Xp0 s.Levels = true := by
 unfold Xiw at h
 rw [if_neg (by omega), if_pos h1] at h
 simp only [Bool.and_eq_true, decide_eq_true_eq] at h
 exact ⟨h.2.1, h.2.2.1, h.2.2.2⟩
theorem Xm5 {s : Square} (h : Xiw s = true) (h1 : s.Kind = 2) : (0 ≤ s.Mode ∧ s.Mode ≤ 3) ∧ Xp0 s.Levels = true := by
 unfold Xiw at h
 rw [if_neg (by omega), if_neg (by omega), if_pos h1] at h
 simp only [Bool.and_eq_true, decide_eq_true_eq] at h
 exact ⟨h.1, h.2.2.2⟩
theorem Xrk (s : Square) (c : Cond) : Xqg (sqL s c) := by
 unfold sqL
 refine Xar ?_ ?_
 ·
  split
  ·
   exact Xiq
  ·
   exact Xcp _
 ·
  split
  ·
   exact Xar (Xar (Xcp _) (Xcp _)) (Xpi _ _)
  ·
   split
   ·
    exact Xar (Xcp _) (Xpi _ _)
   ·
    exact Xiq
theorem Xoz {s : Square} {c : Cond} (h : Xiw s = true) : (sqL s c).length ≤ 5265 := by
 have hk := Xkj h
 have u := Xc2 s.Kind.toNat (by omega)
 have e1 : (if c.Key = true then [] else ueL s.Kind.toNat).length ≤ 39 := by split; simp; exact u.1
 unfold sqL
 rw [List.length_append]
 by_cases h1 : s.Kind = 1
 ·
  obtain ⟨a, b, d⟩ := Xm4 h h1
  have x := Xev s.Dx (by omega)
  have y := Xev s.Dy (by omega)
  have z := Xfe (c := c) d
  rw [if_pos h1]; simp only [List.length_append]; omega
 ·
  by_cases h2 : s.Kind = 2
  ·
   obtain ⟨a, d⟩ := Xm5 h h2
   have x := Xc2 s.Mode.toNat (by omega)
   have z := Xfe (c := c) d
   rw [if_neg h1, if_pos h2]; simp only [List.length_append]; omega
  ·
   rw [if_neg h1, if_neg h2]; simp only [List.length_nil]; omega
theorem Xlk (s : Square) (c : Cond) (h : Xiw s = true) : Xd2 s c = some (strOfNums (sqL s c)) := by
 have hk := Xkj h
 have u := Xc2 s.Kind.toNat (by omega)
 unfold Xd2
 have e1 : (sel (!c.Key) (bnd (Xbl s.Kind) fun q2 => some q2) (some ⟨#[]⟩)) = some (strOfNums (if c.Key = true then [] else ueL s.Kind.toNat)) := by
  rw [show s.Kind = ((s.Kind.toNat : Nat) : Int) by omega, Xco _ (by omega), Xai, Int.toNat_natCast]
  cases c.Key <;> rfl
 rw [e1, Xai]
 have e2 : (if c.Key = true then [] else ueL s.Kind.toNat).length ≤ 39 := by split; simp; exact u.1
 unfold sqL
 generalize (if c.Key = true then [] else ueL s.Kind.toNat) = k at e2 ⊢
 by_cases h1 : s.Kind = 1
 ·
  obtain ⟨a, b, d⟩ := Xm4 h h1
  have x := Xev s.Dx (by omega)
  have y := Xev s.Dy (by omega)
  have z := Xfe (c := c) d
  rw [if_pos h1, Xec (by simpa using h1), Xex _ (by omega), Xai, Xcq (by simp only [strOfNums_size]; omega), Xex _ (by omega), Xai, Xay, Xcq (by simp only [strOfNums_size, List.length_append]; omega), Xft _ c d, Xai, Xay, Xcq (by simp only [strOfNums_size, List.length_append]; omega), Xay]
  simp only [List.append_assoc]
 ·
  rw [if_neg h1, Xcw (by simpa using h1)]
  by_cases h2 : s.Kind = 2
  ·
   obtain ⟨a, d⟩ := Xm5 h h2
   have x := Xc2 s.Mode.toNat (by omega)
   have z := Xfe (c := c) d
   rw [if_pos h2, Xec (by simpa using h2), show s.Mode = ((s.Mode.toNat : Nat) : Int) by omega, Xco _ (by omega), Xai, Xcq (by simp only [strOfNums_size]; omega), Xft _ c d, Xai, Xay, Xcq (by simp only [strOfNums_size, List.length_append]; omega), Xay, Int.toNat_natCast]
   simp only [List.append_assoc]
  ·
   rw [if_neg h2, Xcw (by simpa using h2), List.append_nil]
theorem Xhd (s : Square) (c : Cond) (hl : s.Levels.length ≤ 9223372036854775806) : Xbx s c = some (if (Xiw s && (Xey c && Xki s c)) = true then (strOfNums (sqL s c), true) else (⟨#[]⟩, false)) := by
 have hm : maxLen = 9223372036854775807 := rfl
 unfold Xbx Xcd
 rw [Xh9 s hl, Xai, Xkt, Xai, Xmz, Xai, Xai]
 by_cases hok : (Xiw s && (Xey c && Xki s c)) = true
 ·
  rw [if_pos hok]
  simp only [Bool.and_eq_true] at hok
  obtain ⟨h, hc, hlet⟩ := hok
  have hk := Xkj h
  have u := Xc2 s.Kind.toNat (by omega)
  unfold Xki at hlet
  rw [h, hc, Xrh, Xrh, hlet, Xai, Bool.not_true, Xrg]
  have e1 : (sel (!c.Key) (bnd (Xdu s.Kind) fun q6 => req ((([] : List Int).length + (Xaj q6).length) * 1 ≤ 140737488355328 ∧ ([] : List Int).length + (Xaj q6).length ≤ maxLen) <| some (([] : List Int) ++ (Xaj q6))) (some ([] : List Int))) = some (if c.Key = true then [] else ueL s.Kind.toNat) := by
   rw [show s.Kind = ((s.Kind.toNat : Nat) : Int) by omega, Xdq _ (by omega), Xai, Xdm _ (Xca (Xcp _)), Xcq (by simp only [List.length_nil]; omega), Int.toNat_natCast]
   cases c.Key <;> rfl
  rw [e1, Xai]
  have e2 : (if c.Key = true then [] else ueL s.Kind.toNat).length ≤ 39 := by split; simp; exact u.1
  unfold sqL
  generalize (if c.Key = true then [] else ueL s.Kind.toNat) = k at e2 ⊢
  by_cases h1 : s.Kind = 1
  ·
   obtain ⟨a, b, d⟩ := Xm4 h h1
   have x := Xev s.Dx (by omega)
   have y := Xev s.Dy (by omega)
   have z := Xfe (c := c) d
   rw [if_pos h1, Xec (by simpa using h1), Xge _ (by omega), Xai, Xge _ (by omega), Xai]
   simp only
   rw [Xdm (seL s.Dx) (Xca (Xcp _)), Xdm (seL s.Dy) (Xca (Xcp _)), rqA, Xcq (by rw [List.length_append]; omega), Xeg _ c d, Xai, Xcq (by simp only [List.length_append]; omega), Xai]
   simp only [List.append_assoc]
  ·
   rw [if_neg h1, Xcw (by simpa using h1)]
   by_cases h2 : s.Kind = 2
   ·
    obtain ⟨a, d⟩ := Xm5 h h2
    have x := Xc2 s.Mode.toNat (by omega)
    have z := Xfe (c := c) d
    rw [if_pos h2, Xec (by simpa using h2), show s.Mode = ((s.Mode.toNat : Nat) : Int) by omega, Xdq _ (by omega), Xai, Xdm _ (Xca (Xcp _)), rqA, Xeg _ c d, Xai, Xcq (by simp only [List.length_append]; omega), Xai, Int.toNat_natCast]
    simp only [List.append_assoc]
   ·
    rw [if_neg h2, Xcw (by simpa using h2), Xai, List.append_nil]
 ·
  rw [if_neg hok]
  unfold Xki at hok
  cases h1 : Xiw s <;> cases h2 : Xey c <;> cases h3 : (!c.Key || s.Kind == 2) <;> simp_all [bnd, sel]
def Xe1 : List Square → Cond → List Int
 | [], _ => []
 | s :: r, c => sqL s c ++ Xe1 r c
def Xfa (l : List Square) (c : Cond) : Bool := l.all fun s => Xiw s && (Xey c && Xki s c)
theorem Xl1 : ∀ {l : List Square} {c : Cond}, Xfa l c = true → (Xe1 l c).length ≤ 5265 * l.length
 | [], _, _ => by simp [Xe1]
 | s :: r, c, h => by
  unfold Xfa at h
  rw [List.all_cons, Bool.and_eq_true, Bool.and_eq_true] at h
  have h1 := Xoz (c := c) h.1.1
  have h2 := Xl1 (l := r) (c := c) h.2
  rw [Xe1, List.length_append, List.length_cons]; omega
def Xhx (l : List Square) (c : Cond) : ByteArray × Bool := if (decide (1 ≤ l.length ∧ l.length ≤ 64) && Xfa l c) = true then (strOfNums (Xe1 l c), true) else (⟨#[]⟩, false)
theorem Xj9 (l : List Square) (c : Cond) : Xc8 l c = some (Xhx l c) := by
 have hm : maxLen = 9223372036854775807 := rfl
 unfold Xc8 Xhx Xfj
 rw [Xk9, Xai, Xcm, Xai, Xmz, Xai]
 by_cases hl : 1 ≤ l.length ∧ l.length ≤ 64
 ·
  rw [decide_eq_true (show (1 : Int) ≤ (l.length : Int) ∧ (l.length : Int) ≤ 64 by omega), decide_eq_true hl, Bool.true_and]
  cases hc : Xey c with
  | false =>
   have : Xfa l c = false := by
    unfold Xfa
    rw [List.all_eq_false]
    obtain ⟨s, r, rfl⟩ : ∃ s r, l = s :: r := by
     cases l with
     | nil => simp at hl
     | cons s r => exact ⟨s, r, rfl⟩
    exact ⟨s, by simp, by rw [hc]; simp⟩
   rw [this]; rfl
  | true =>
   have key : ∀ (r a : List Square), l = a ++ r → loop (Xbu l c) (a.length : Int) = some (if Xfa r c = true then .out () else .ret false) := by
    intro r
    induction r with
    | nil =>
     intro a ha
     rw [List.append_nil] at ha
     exact Xhq (by unfold Xbu; rw [Xgv (by rw [ha]; omega)]; rfl)
    | cons s r ih =>
     intro a ha
     have hlen : a.length < l.length := by rw [ha]; simp
     have hx : l.getD a.length Xah = s := by rw [ha]; exact Xd4 a s _ r
     have hstep : Xbu l c (a.length : Int) = sel (!(Xiw s && Xki s c)) (some (.done (.ret false))) (some (.go ((a.length + 1 : Nat) : Int))) := by
      unfold Xbu
      simp only [Int.toNat_natCast, hx]
      rw [syA, rqA, show (⟨s.Kind, s.Mode, s.Dx, s.Dy, s.Levels⟩ : Square) = s from rfl, Xii, Xai, rqA, wkA]
      unfold Xki
      cases Xiw s <;> cases c.Key <;> cases h2 : (s.Kind == 2) <;> first | rfl | (simp only [bne, h2]; rfl)
     have hone : Xfa (s :: r) c = (Xiw s && Xki s c && Xfa r c) := by unfold Xfa; rw [List.all_cons, hc, Bool.true_and]
     rw [hone]
     cases e : (Xiw s && Xki s c) with
     | true =>
      rw [e] at hstep
      have := ih (a ++ [s]) (by rw [ha]; simp)
      rw [List.length_append, List.length_singleton] at this
      rw [Xbm hstep, this, Bool.true_and]
     | false => rw [e] at hstep; rw [Xch hstep, Bool.false_and]; rfl
   have := key l [] rfl
   simp only [Bool.not_true, Bool.false_or, Xrg]
   refine (Xl7 (a := Xfa l c) ((Xl7 this).trans (by cases Xfa l c <;> rfl))).trans ?_
   rw [Xn4]
   cases hs : Xfa l c with
   | false => rfl
   | true =>
    rw [Xrh, if_pos rfl]
    have tot := Xl1 hs
    have kr : ∀ (r a : List Square) (t : List Int), l = a ++ r → t.length ≤ 5265 * a.length → loop (Xb3 l c) ((a.length : Int), t) = some (t ++ Xe1 r c) := by
     intro r
     induction r with
     | nil =>
      intro a t ha _
      rw [List.append_nil] at ha
      exact Xhq (by unfold Xb3; simp only; rw [Xgv (by rw [ha]; omega), Xe1, List.append_nil])
     | cons s r ih =>
      intro a t ha ht
      have hlen : a.length < l.length := by rw [ha]; simp
      have hx : l.getD a.length Xah = s := by rw [ha]; exact Xd4 a s _ r
      have hok : Xiw s = true := by
       have := List.all_eq_true.1 (show l.all _ = true from hs) s (by rw [ha]; simp)
       rw [Bool.and_eq_true] at this; exact this.1
      have g := Xoz (c := c) hok
      have hn := ih (a ++ [s]) (t ++ sqL s c) (by rw [ha]; simp) (by simp only [List.length_append, List.length_singleton]; omega)
      rw [List.length_append, List.length_singleton] at hn
      rw [Xe1, ← List.append_assoc, ← hn]
      refine Xbm ?_
      unfold Xb3
      simp only [Int.toNat_natCast, hx]
      rw [syA, rqA, show (⟨s.Kind, s.Mode, s.Dx, s.Dy, s.Levels⟩ : Square) = s from rfl, Xlk s c hok, Xai, Xdm _ (Xca (Xrk _ _)), rqA, wkA]
      rfl
    have hrow : Xd3 l c = some (strOfNums (Xe1 l c)) := by
     unfold Xd3
     exact Xl7 (kr l [] [] rfl (by simp))
    rw [hrow, Xai]
 ·
  rw [decide_eq_false hl, decide_eq_false (show ¬ ((1 : Int) ≤ (l.length : Int) ∧ (l.length : Int) ≤ 64) by omega), Bool.false_and]
  cases Xey c <;> rfl
theorem Xje (l : List Square) (c : Cond) (hs : ∀ s ∈ l, s.Levels.length ≤ 9223372036854775806) : Xc6 l c = some (Xhx l c) := by
 have hm : maxLen = 9223372036854775807 := rfl
 unfold Xc6 Xhx
 rw [Xbk, Xai, Xn4]
 by_cases hl : 1 ≤ l.length ∧ l.length ≤ 64
 ·
  rw [syA, decide_eq_true hl, Bool.true_and]
  have key : ∀ (r a : List Square) (t : List Int), l = a ++ r → t.length ≤ 5265 * a.length → loop (Xa5 l c) ((a.length : Int), t) = some (if Xfa r c = true then .out (t ++ Xe1 r c) else .ret (⟨#[]⟩, false)) := by
   intro r
   induction r with
   | nil =>
    intro a t ha _
    rw [List.append_nil] at ha
    exact Xhq (by unfold Xa5; simp only; rw [Xgv (by rw [ha]; omega), Xe1, List.append_nil]; rfl)
   | cons s r ih =>
    intro a t ha ht
    have hlen : a.length < l.length := by rw [ha]; simp
    have hx : l.getD a.length Xah = s := by rw [ha]; exact Xd4 a s _ r
    have hone : Xfa (s :: r) c = ((Xiw s && (Xey c && Xki s c)) && Xfa r c) := by unfold Xfa; rw [List.all_cons]
    have hrow := Xhd s c (hs s (by rw [ha]; simp))
    rw [hone]
    cases e : (Xiw s && (Xey c && Xki s c)) with
    | true =>
     rw [e, if_pos rfl] at hrow
     have hok : Xiw s = true := by rw [Bool.and_eq_true] at e; exact e.1
     have g := Xoz (c := c) hok
     have hn := ih (a ++ [s]) (t ++ sqL s c) (by rw [ha]; simp) (by simp only [List.length_append, List.length_singleton]; omega)
     rw [List.length_append, List.length_singleton] at hn
     rw [Bool.true_and, Xe1, ← List.append_assoc, ← hn]
     refine Xbm ?_
     unfold Xa5
     simp only [Int.toNat_natCast, hx]
     rw [syA, rqA, show (⟨s.Kind, s.Mode, s.Dx, s.Dy, s.Levels⟩ : Square) = s from rfl, hrow, Xai, Xn4, Xrh, Xdm _ (Xca (Xrk _ _)), rqA, wkA]
     rfl
    | false =>
     rw [e, if_neg (by decide)] at hrow
     rw [Bool.false_and, if_neg (by decide)]
     refine Xhq ?_
     unfold Xa5
     simp only [Int.toNat_natCast, hx]
     rw [syA, rqA, show (⟨s.Kind, s.Mode, s.Dx, s.Dy, s.Levels⟩ : Square) = s from rfl, hrow, Xai, Xn4, Xrg]
  refine (Xl7 (key l [] [] rfl (by simp))).trans ?_
  cases Xfa l c <;> rfl
 ·
  rw [snA, decide_eq_false hl, Bool.false_and]; rfl
theorem Xsi {f : (Int × Int) → Option (Lp (Int × Int) (Ou Int Int))} (n : Nat) (B : Int) (R : Nat → Prop) (h : ∀ (i : Nat) (m : Int), i < n → 0 ≤ m → m ≤ B → f (m, (i : Int)) = some (.done (.ret (-1))) ∨ ∃ m', f (m, (i : Int)) = some (.go (m', ((i + 1 : Nat) : Int))) ∧ 0 ≤ m' ∧ m' ≤ m ∧ R i)
  (h0 : ∀ m, f (m, (n : Int)) = some (.done (.out m))) (m : Int) (hm : 0 ≤ m) (hB : m ≤ B) : loop f (m, 0) = some (.ret (-1)) ∨ ∃ t, loop f (m, 0) = some (.out t) ∧ 0 ≤ t ∧ t ≤ m ∧ ∀ i, i < n → R i := by
 have := Xqv (P := fun i => ∀ m : Int, 0 ≤ m → m ≤ B → loop f (m, (i : Int)) = some (.ret (-1)) ∨ ∃ t, loop f (m, (i : Int)) = some (.out t) ∧ 0 ≤ t ∧ t ≤ m ∧ ∀ j, i ≤ j → j < n → R j) n ?_ ?_ 0 (by omega) m hm hB
 ·
  rcases this with e | ⟨t, e, a, b, c⟩
  ·
   exact .inl e
  ·
   exact .inr ⟨t, e, a, b, fun i hi => c i (by omega) hi⟩
 ·
  intro m h1 h2; exact .inr ⟨m, Xch (h0 m), h1, Int.le_refl _, fun j a b => by omega⟩
 ·
  intro i hi ih m h1 h2
  rcases h i m hi h1 h2 with e | ⟨m', e, h3, h4, h5⟩
  ·
   exact .inl (Xch e)
  ·
   rw [Xbm e]
   rcases ih m' h3 (by omega) with e | ⟨t, e, h6, h7, h8⟩
   ·
    exact .inl e
   ·
    exact .inr ⟨t, e, h6, by omega, fun j a b => by
     rcases Nat.eq_or_lt_of_le a with e | e
     ·
      subst e; exact h5
     ·
      exact h8 j (by omega) b⟩
theorem Xhk (l : List Square) (m : Int) (hl : l.length ≤ maxLen) (hs : ∀ s ∈ l, s.Levels.length ≤ maxLen) (h0 : 0 ≤ m) (h1 : m ≤ 1048576) : ∃ t, Xb0 l m = some t ∧ t ≤ m ∧ -1 ≤ t ∧ (0 ≤ t → l.length ≤ 1048576 ∧ ∀ s ∈ l, s.Levels.length ≤ 1048576) := by
 have hm : maxLen = 9223372036854775807 := rfl
 unfold Xb0
 rw [wkA]
 by_cases h : m - l.length < 0
 ·
  rw [Xj1 h]; exact ⟨_, rfl, by omega, by omega, by omega⟩
 ·
  rw [Xgv h]
  rcases Xsi (f := Xa7 l) l.length 1048576 (fun i => (l.getD i Xah).Levels.length ≤ 1048576) (by
   intro i m hi h0 h1
   have hx := hs (l.getD i Xah) (by rw [Xmc l i hi]; exact List.getElem_mem hi)
   unfold Xa7 Xdj
   simp only [Int.toNat_natCast]
   rw [syA, rqA, Xk2 _ m hx h0 h1, Xai, wkA]
   by_cases e : m < (l.getD i Xah).Levels.length
   ·
    left; rw [if_pos e, syA, Xai, syA]
   ·
    right; rw [if_neg e, snA, Xai, snA]; exact ⟨_, rfl, by omega, by omega, by omega⟩) (by
   intro m; unfold Xa7; simp only; rw [snA]) (m - l.length) (by omega) (by omega) with e | ⟨t, e, h2, h3, h4⟩
  ·
   rw [e]; exact ⟨_, rfl, by omega, by omega, by omega⟩
  ·
   rw [e]
   refine ⟨_, rfl, by omega, by omega, fun _ => ⟨by omega, fun s hs => ?_⟩⟩
   obtain ⟨i, hi, rfl⟩ := List.getElem_of_mem hs
   have := h4 i hi
   rw [Xmc l i hi] at this; exact this
theorem Xhn (l : List Square) (hl : l.length ≤ 1048576) (hs : ∀ s ∈ l, s.Levels.length ≤ 1048576) : Xa2 l = some l := by
 unfold Xa2
 rw [rqA, Int.toNat_natCast]
 have := Xne l (fun p : Square => p) Xah Xah (f := Xa8 l) (by
  intro i o hi ho
  unfold Xa8 Xdk
  simp only [Int.toNat_natCast]
  rw [syA, rqA, Xk4 _ (by rw [Xmc l i hi]; exact hs _ (List.getElem_mem hi)), Xai, Xai, rqA, rqA, Xai, wkA]
  rfl) (by
  intro o; unfold Xa8; simp only; rw [snA])
 rw [this, Xai, List.map_id']
theorem Xf4 (l : List Square) (hl : l.length ≤ 1048600) (hs : ∀ s ∈ l, s.Levels.length ≤ 1048600) : Xbz l l = some true := by
 unfold Xbz
 rw [Xcw (by simp), Xn5 l.length (f := Xa6 l l) (by
  intro i hi
  have hx := hs (l.getD i Xah) (by rw [Xmc l i hi]; exact List.getElem_mem hi)
  unfold Xa6 Xdi
  simp only [Int.toNat_natCast]
  rw [syA, rqA, rqA, Xia _ (by omega)]
  simp only [bne_self_eq_false, Xrg, Xai, Bool.not_true]
  rw [wkA]
  rfl) (by unfold Xa6; rw [snA])]
 rfl
theorem FnExactSentSize {p0 : List Square} {p1 : Cond} (h0 : p0.length ≤ maxLen ∧ ∀ y ∈ p0, Xpo y) (h1 : Xsy p1) : Xa3 p0 p1 = some true := by
 have hm : maxLen = 9223372036854775807 := rfl
 unfold Xa3
 obtain ⟨t, e, a1, a2, a3⟩ := Xhk p0 1048576 h0.1 (fun s hs => (h0.2 s hs).2.2.2.2.1) (by omega) (by omega)
 rw [e, Xai]
 by_cases ht : t < 0
 ·
  rw [Xj1 ht]
 rw [Xgv ht]
 obtain ⟨l1, l2⟩ := a3 (by omega)
 have es : Xck p0 p1 = some (((Xhx p0 p1).1.size : Nat) : Int) := by unfold Xck; rw [Xj9, Xai]
 have ei : Xcb p0 p1 = some (((Xhx p0 p1).1.size : Nat) : Int) := by unfold Xcb; rw [Xje _ _ (fun s hs => by have := l2 s hs; omega), Xai]
 simp only [Xhn p0 l1 l2, Xdx, Xai, es, ei, bne_self_eq_false, Xrg, Xf4 p0 (by omega) (fun s hs => by have := l2 s hs; omega), Bool.not_true]
end Go.Proofs.Ytlebkepfhdjnmab.A.Pure
