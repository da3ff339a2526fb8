/- The pure statement of the law FnExactSourceSets: over numbers, texts and lists alone, what the law computes is true. Conditions: the sizes of what a machine holds. -/
import Derived.Test.YtplmeeookgefnaaDFnExactSourceSets
namespace Go.Proofs.Ytplmeeookgefnaa.A.Pure
open Go Go.Proofs Go.Proofs.YtplmeeookgefnaaAL Go.RowKit
set_option linter.unusedVariables false
set_option linter.unusedSimpArgs false
set_option maxHeartbeats 1000000
theorem bnd_s {α β : Type} (a : α) (f : α → Option β) : bnd (some a) f = f a := rfl
theorem bnd_e {α β : Type} {x : Option α} {a : α} {f : α → Option β} (h : x = some a) : bnd x f = f a := by subst h; rfl
theorem sel_t {β : Type} (x y : β) : sel true x y = x := rfl
theorem sel_f {β : Type} (x y : β) : sel false x y = y := rfl
theorem sel_n {β : Type} (b : Bool) (x y : β) : sel (!b) x y = sel b y x := by cases b <;> rfl
theorem sel_and (b x : Bool) : sel b (some x) (some false) = some (b && x) := by cases b <;> rfl
theorem sel_or (b x : Bool) : sel b (some true) (some x) = some (b || x) := by cases b <;> rfl
theorem sel_nor (b x : Bool) : sel b (some x) (some true) = some (!b || x) := by cases b <;> rfl
theorem sel_ite {β : Type} (b : Bool) (x y : β) : sel b x y = if b = true then x else y := by cases b <;> rfl
theorem sel_d {β : Type} (p : Prop) [Decidable p] (x y : β) : sel (decide p) x y = if p then x else y := by
  by_cases h : p <;> simp [h, sel]
theorem sel_pos {β : Type} {b : Bool} {x y : β} (h : b = true) : sel b x y = x := by subst h; rfl
theorem sel_neg {β : Type} {b : Bool} {x y : β} (h : b = false) : sel b x y = y := by subst h; rfl
theorem sel_yes {β : Type} {p : Prop} [Decidable p] {x y : β} (h : p) : sel (decide p) x y = x := by simp [h, sel]
theorem sel_no {β : Type} {p : Prop} [Decidable p] {x y : β} (h : ¬ p) : sel (decide p) x y = y := by simp [h, sel]
theorem req_p {β : Type} {c : Prop} [Decidable c] {k : Option β} (h : c) : req c k = k := if_pos h
theorem wk {e : Int} (h1 : -9223372036854775808 ≤ e) (h2 : e ≤ 9223372036854775807) : wrapK .i64 e = e := by
  show wrap64 e = e
  unfold wrap64; omega
theorem w8 {e : Int} (h1 : 0 ≤ e) (h2 : e ≤ 255) : wrapK .u8 e = e := by
  show IntKind.wrap .u8 e = e
  simp [IntKind.wrap, IntKind.signed, IntKind.bits]; omega
theorem wf64 {n : Int} (h : (Lit.int .i64 n).wf = true) : -9223372036854775808 ≤ n ∧ n ≤ 9223372036854775807 := by
  simp [Lit.wf, IntKind.min, IntKind.max, IntKind.signed, IntKind.bits] at h
  omega
theorem tmod_pos {a b : Int} (h : 0 ≤ a) : Int.tmod a b = a % b := Int.tmod_eq_emod_of_nonneg h
theorem tdiv_pos {a b : Int} (h : 0 ≤ a) : Int.tdiv a b = a / b := Int.tdiv_eq_ediv_of_nonneg h
theorem down_to {P : Nat → Prop} (n : Nat) (h0 : P n) (hs : ∀ i, i < n → P (i + 1) → P i) : ∀ i, i ≤ n → P i := by
  intro i hi
  obtain ⟨k, rfl⟩ : ∃ k, n = i + k := ⟨n - i, by omega⟩
  clear hi
  induction k generalizing i with
  | zero => exact h0
  | succ k ih =>
    refine hs i (by omega) ?_
    exact ih (i + 1) (by rw [show i + 1 + k = i + (k + 1) by omega]; exact h0) (fun j hj => hs j (by omega))
theorem lgo {V O : Type} {f : V → Option (Lp V O)} {x y : V} {r : Option O} (h : f x = some (.go y)) (k : loop f y = r) : loop f x = r := by rw [loop_go h]; exact k
theorem ldone {V O : Type} {f : V → Option (Lp V O)} {x : V} {o : O} (h : f x = some (.done o)) : loop f x = some o := loop_done h
theorem loop_inv {V O : Type} {f : V → Option (Lp V O)} (I : V → Prop) (m : V → Nat) (Q : V → O → Prop) (h : ∀ v, I v → (∃ o, f v = some (.done o) ∧ Q v o) ∨ ∃ v', f v = some (.go v') ∧ I v' ∧ m v' < m v ∧ ∀ o, Q v' o → Q v o) : ∀ v, I v → ∃ o, loop f v = some o ∧ Q v o := by
  intro v
  generalize hn : m v = n
  induction n using Nat.strongRecOn generalizing v with
  | _ n ih =>
    intro hv
    rcases h v hv with ⟨o, h1, h2⟩ | ⟨v', h1, h2, h3, h4⟩
    · exact ⟨o, loop_done h1, h2⟩
    · obtain ⟨o, h5, h6⟩ := ih (m v') (by omega) v' rfl h2
      exact ⟨o, by rw [loop_go h1]; exact h5, h4 o h6⟩
theorem getD_at {α : Type} (l : List α) (i : Nat) (h : i < l.length) (d : α) : l.getD i d = l[i] := by
  simp [List.getD_eq_getElem?_getD, List.getElem?_eq_getElem h]
theorem impl_within_eq (a b c : Int) : impl_within a b c = some (decide (b ≤ a ∧ a ≤ c)) := by
  unfold impl_within
  by_cases h : b ≤ a <;> simp [bnd, sel, h]
theorem spec_l01In_eq (a b c : Int) : spec_l01In a b c = some (decide (b ≤ a ∧ a ≤ c)) := by
  unfold spec_l01In
  by_cases h : b ≤ a <;> simp [bnd, sel, h]
theorem set_mid {α : Type} (a : List α) (x y : α) (b : List α) : (a ++ x :: b).set a.length y = a ++ y :: b := by
  induction a with
  | nil => rfl
  | cons z a ih => simp only [List.cons_append, List.length_cons, List.set_cons_succ, ih]
theorem getD_mid {α : Type} (a : List α) (x d : α) (b : List α) : (a ++ x :: b).getD a.length d = x := by
  induction a with
  | nil => rfl
  | cons z a ih => simp
theorem fill_loop {α β : Type} (l : List α) (g : α → β) (d : α) (e : β) {f : (Int × List β) → Option (Lp (Int × List β) (List β))}
    (h : ∀ (i : Nat) (o : List β), i < l.length → o.length = l.length → f ((i : Int), o) = some (.go (((i + 1 : Nat) : Int), o.set i (g (l.getD i d))))) (h0 : ∀ o, f ((l.length : Int), o) = some (.done o)) : loop f (0, List.replicate l.length e) = some (l.map g) := by
  have key : ∀ (r a : List α), l = a ++ r → loop f ((a.length : Int), a.map g ++ List.replicate r.length e) = some (l.map g) := by
    intro r
    induction r with
    | nil =>
      intro a ha
      rw [List.append_nil] at ha
      subst ha
      rw [loop_done (h0 _)]; simp
    | cons x r ih =>
      intro a ha
      have hlen : a.length < l.length := by rw [ha]; simp
      rw [loop_go (h a.length _ hlen (by rw [ha]; simp))]
      have e1 : l.getD a.length d = x := by rw [ha]; exact getD_mid a x d r
      have e2 : (a.map g ++ List.replicate (x :: r).length e).set a.length (g x) = (a ++ [x]).map g ++ List.replicate r.length e := by
        have := set_mid (a.map g) e (g x) (List.replicate r.length e)
        rw [List.length_map] at this
        rw [List.length_cons, List.replicate_succ, this]
        simp
      rw [e1, e2]
      have := ih (a ++ [x]) (by rw [ha]; simp)
      rw [List.length_append, List.length_singleton] at this
      exact this
  exact key l [] rfl
theorem self_loop {f : Int → Option (Lp Int (Ou Unit Bool))} (n : Nat) (h : ∀ i : Nat, i < n → f i = some (.go ((i + 1 : Nat) : Int))) (h0 : f n = some (.done (.out ()))) : loop f 0 = some (.out ()) :=
  down_to (P := fun i => loop f (i : Int) = some (.out ())) n (loop_done h0) (fun i hi ih => by rw [loop_go (h i hi)]; exact ih) 0 (by omega)
theorem strOfNums_one (n : Int) : (strOfNums [n]).size = 1 := rfl
theorem laws_markText_ev (k : Int) (h0 : 0 < k) (h1 : k ≤ 1000000000000) : ∃ s, laws_markText k = some s := by
  unfold laws_markText
  rw [sel_no (by omega)]
  obtain ⟨o, h, h2⟩ := loop_inv (f := laws_markText_l2) (fun v => 0 ≤ v.1 ∧ v.1 + v.2.size ≤ 1000000000000) (fun v => v.1.toNat) (fun _ o => o.size ≤ 1000000000000) (by
    intro ⟨n, s⟩ ⟨a, b⟩
    unfold laws_markText_l2
    simp only at a b ⊢
    by_cases h : n > 0
    · rw [sel_yes h, req_p (by decide), strOfNums_one, req_p (by omega), req_p (by decide), tdiv_pos a]
      refine .inr ⟨_, rfl, ?_, ?_, fun _ h => h⟩
      · simp only [ByteArray.size_append, strOfNums_one]
        rw [wk (by omega) (by omega)]; omega
      · simp only
        rw [wk (by omega) (by omega)]; omega
    · rw [sel_no h]
      exact .inl ⟨_, rfl, by omega⟩) (k, ⟨#[]⟩) ⟨by simp only; omega, by simp only [show (⟨#[]⟩ : ByteArray).size = 0 from rfl]; omega⟩
  rw [h, bnd_s, req_p (by simp only [show (⟨#[109]⟩ : ByteArray).size = 1 from rfl]; omega)]
  exact ⟨_, rfl⟩
noncomputable def mT (k : Int) : ByteArray := (laws_markText k).getD ⟨#[]⟩
theorem laws_markText_eq (k : Int) (h0 : 0 < k) (h1 : k ≤ 1000000000000) : laws_markText k = some (mT k) := by
  obtain ⟨s, h⟩ := laws_markText_ev k h0 h1
  unfold mT; rw [h]; rfl
def rateOk (r : Rate) : Bool := decide (0 ≤ r.Qp ∧ r.Qp ≤ 40 ∧ 1 ≤ r.Target ∧ r.Target ≤ 100000 ∧ -8 * r.Target ≤ r.Debt ∧ r.Debt ≤ 8 * r.Target)
theorem impl_RateOk_eq (r : Rate) : impl_RateOk r = some (rateOk r) := by
  unfold impl_RateOk rateOk
  simp only [impl_within_eq, bnd_s]
  by_cases h1 : 0 ≤ r.Qp ∧ r.Qp ≤ 40
  · rw [sel_yes h1]
    by_cases h2 : 1 ≤ r.Target ∧ r.Target ≤ 100000
    · rw [sel_yes h2, wk (by omega) (by omega), wk (by omega) (by omega), bnd_s]
      simp only [h1.1, h1.2, h2.1, h2.2, true_and]
    · rw [sel_no h2, bnd_s]; congr 1; symm; rw [decide_eq_false_iff_not]; exact fun h => h2 ⟨h.2.2.1, h.2.2.2.1⟩
  · rw [sel_no h1, bnd_s]; congr 1; symm; rw [decide_eq_false_iff_not]; exact fun h => h1 ⟨h.1, h.2.1⟩
def okSide (n : Int) : Bool := decide (1 ≤ n ∧ n ≤ 8)
def isum : List Int → Int
  | [] => 0
  | x :: r => x + isum r
def okSides (l : List Int) : Bool := decide (1 ≤ l.length ∧ l.length ≤ 4) && l.all okSide
def sumIf (l : List Int) : Int := if okSides l = true then isum l else 0
theorem isum_bounds : ∀ {l : List Int}, l.all okSide = true → (l.length : Int) ≤ isum l ∧ isum l ≤ 8 * l.length
  | [], _ => by simp [isum]
  | x :: r, h => by
    rw [List.all_cons, Bool.and_eq_true] at h
    have := isum_bounds h.2
    have hx := h.1
    unfold okSide at hx
    simp only [decide_eq_true_eq] at hx
    rw [isum, List.length_cons]
    omega
theorem sumIf_bounds (l : List Int) : 0 ≤ sumIf l ∧ sumIf l ≤ 32 := by
  unfold sumIf
  split
  · rename_i h
    unfold okSides at h
    rw [Bool.and_eq_true, decide_eq_true_eq] at h
    have := isum_bounds h.2
    omega
  · omega
theorem spec_l05Sum_eq (l : List Int) : spec_l05Sum l = some (sumIf l) := by
  unfold spec_l05Sum sumIf okSides
  rw [sel_or, bnd_s]
  by_cases h : 1 ≤ l.length ∧ l.length ≤ 4
  · rw [sel_neg (by simp; omega), decide_eq_true h, Bool.true_and]
    have key : ∀ (r a : List Int) (t : Int), l = a ++ r → 0 ≤ t → t ≤ 8 * a.length → loop (spec_l05Sum_l2 l) (t, (a.length : Int)) = some (if r.all okSide = true then .out (t + isum r) else .ret 0) := by
      intro r
      induction r with
      | nil =>
        intro a t ha h0 h1
        rw [List.append_nil] at ha
        refine ldone ?_
        unfold spec_l05Sum_l2
        simp only
        rw [sel_no (by rw [ha]; omega)]
        simp [isum]
      | cons x r ih =>
        intro a t ha h0 h1
        have hlen : a.length < l.length := by rw [ha]; simp
        have hx : l.getD a.length 0 = x := by rw [ha]; exact getD_mid a x _ r
        have hstep : spec_l05Sum_l2 l (t, (a.length : Int)) = sel (okSide x) (some (.go (wrapK .i64 (t + x), ((a.length + 1 : Nat) : Int)))) (some (.done (.ret 0))) := by
          unfold spec_l05Sum_l2
          simp only [Int.toNat_natCast, hx]
          rw [sel_yes (by omega), req_p (by omega), spec_l01In_eq, bnd_s, sel_n, req_p (by omega), wk (e := (a.length : Int) + 1) (by omega) (by omega)]
          rfl
        cases e : okSide x with
        | true =>
          rw [e] at hstep
          have hx2 := e
          unfold okSide at hx2
          simp only [decide_eq_true_eq] at hx2
          rw [wk (by omega) (by omega), sel_t] at hstep
          have := ih (a ++ [x]) (t + x) (by rw [ha]; simp) (by omega) (by simp; omega)
          rw [List.length_append, List.length_singleton] at this
          rw [loop_go hstep, this, List.all_cons, e, Bool.true_and, isum, Int.add_assoc]
        | false =>
          rw [e, sel_f] at hstep
          rw [loop_done hstep, List.all_cons, e, Bool.false_and]; rfl
    have := key l [] 0 rfl (by omega) (by simp)
    simp only [List.length_nil, Int.zero_add] at this
    rw [show (((0 : Int), (0 : Int))) = (0, ((0 : Nat) : Int)) from rfl, this, bnd_s]
    cases l.all okSide <;> rfl
  · rw [sel_pos (by simp; omega), decide_eq_false h, Bool.false_and]; rfl
theorem impl_sumOf_eq (l : List Int) (h : okSides l = true) : impl_sumOf l = some (isum l) := by
  unfold okSides at h
  rw [Bool.and_eq_true, decide_eq_true_eq] at h
  unfold impl_sumOf
  have key : ∀ (r a : List Int) (t : Int), l = a ++ r → 0 ≤ t → t ≤ 8 * a.length → loop (impl_sumOf_l2 l) (t, (a.length : Int)) = some (t + isum r) := by
    intro r
    induction r with
    | nil =>
      intro a t ha h0 h1
      rw [List.append_nil] at ha
      refine ldone ?_
      unfold impl_sumOf_l2
      simp only
      rw [sel_no (by rw [ha]; omega)]
      simp [isum]
    | cons x r ih =>
      intro a t ha h0 h1
      have hlen : a.length < l.length := by rw [ha]; simp
      have hx : l.getD a.length 0 = x := by rw [ha]; exact getD_mid a x _ r
      have e : okSide x = true := List.all_eq_true.1 h.2 x (by rw [ha]; simp)
      unfold okSide at e
      simp only [decide_eq_true_eq] at e
      have := ih (a ++ [x]) (t + x) (by rw [ha]; simp) (by omega) (by simp; omega)
      rw [List.length_append, List.length_singleton] at this
      rw [isum, ← Int.add_assoc, ← this]
      refine loop_go ?_
      unfold impl_sumOf_l2
      simp only [Int.toNat_natCast, hx]
      rw [sel_yes (by omega), req_p (by omega), wk (e := (a.length : Int) + 1) (by omega) (by omega), wk (by omega) (by omega)]
      rfl
  have := key l [] 0 rfl (by omega) (by simp)
  simp only [List.length_nil, Int.zero_add] at this
  rw [show (((0 : Int), (0 : Int))) = (0, ((0 : Nat) : Int)) from rfl, this, bnd_s]
def squares (s : Seq) : Int := sumIf s.Cols * sumIf s.Rows
theorem squares_bounds (s : Seq) : 0 ≤ squares s ∧ squares s ≤ 1024 := by
  unfold squares
  have h1 := sumIf_bounds s.Cols
  have h2 := sumIf_bounds s.Rows
  refine ⟨Int.mul_nonneg h1.1 h2.1, ?_⟩
  calc sumIf s.Cols * sumIf s.Rows ≤ 32 * sumIf s.Rows := Int.mul_le_mul_of_nonneg_right h1.2 h2.1
    _ ≤ 1024 := by omega
theorem spec_SquaresOf_eq (s : Seq) : spec_SquaresOf s = some (squares s) := by
  have h := squares_bounds s
  unfold spec_SquaresOf
  rw [spec_l05Sum_eq, bnd_s, spec_l05Sum_eq, bnd_s, wk (by show _ ≤ squares s; omega) (by show squares s ≤ _; omega)]
  rfl
theorem squares_in (s : Seq) (n : Nat) (hn : n = 0 ∨ n = 1) (l : List Int) (hl : ([s.Cols, s.Rows]).getD n dLInti64 = l) (h4 : l.length ≤ 4) : loop (impl_SquaresOf_l14 s (n : Int)) 0 = some (if l.all okSide = true then .out () else .ret 0) := by
  have key : ∀ (r a : List Int), l = a ++ r → loop (impl_SquaresOf_l14 s (n : Int)) (a.length : Int) = some (if r.all okSide = true then .out () else .ret 0) := by
    intro r
    induction r with
    | nil =>
      intro a ha
      rw [List.append_nil] at ha
      refine ldone ?_
      unfold impl_SquaresOf_l14
      rw [Int.toNat_natCast, hl, sel_no (by rw [ha]; omega)]; rfl
    | cons x r ih =>
      intro a ha
      have hlen : a.length < l.length := by rw [ha]; simp
      have hx : l.getD a.length 0 = x := by rw [ha]; exact getD_mid a x _ r
      have hstep : impl_SquaresOf_l14 s (n : Int) (a.length : Int) = sel (okSide x) (some (.go ((a.length + 1 : Nat) : Int))) (some (.done (.ret 0))) := by
        unfold impl_SquaresOf_l14
        simp only [Int.toNat_natCast, hl, hx]
        rw [sel_yes (by omega), req_p (by omega), impl_within_eq, bnd_s, sel_n, wk (by omega) (by omega)]
        rfl
      cases e : okSide x with
      | true =>
        rw [e, sel_t] at hstep
        have := ih (a ++ [x]) (by rw [ha]; simp)
        rw [List.length_append, List.length_singleton] at this
        rw [loop_go hstep, this, List.all_cons, e, Bool.true_and]
      | false => rw [e, sel_f] at hstep; rw [loop_done hstep, List.all_cons, e, Bool.false_and]; rfl
  exact key l [] rfl
theorem impl_SquaresOf_eq (s : Seq) (h1 : s.Cols.length ≤ maxLen) (h2 : s.Rows.length ≤ maxLen) : impl_SquaresOf s = some (squares s) := by
  have h := squares_bounds s
  unfold impl_SquaresOf
  have step : ∀ (n : Nat) (l : List Int), n = 0 ∨ n = 1 → ([s.Cols, s.Rows]).getD n dLInti64 = l → impl_SquaresOf_l12 s (n : Int) = sel (okSides l) (some (.go ((n + 1 : Nat) : Int))) (some (.done (.ret 0))) := by
    intro n l hn hl
    unfold impl_SquaresOf_l12 okSides
    rw [Int.toNat_natCast, hl]
    simp only [List.length_cons, List.length_nil]
    rw [sel_yes (by omega), req_p (by omega), req_p (by omega), impl_within_eq, bnd_s, sel_n]
    by_cases h4 : 1 ≤ l.length ∧ l.length ≤ 4
    · rw [sel_yes (by omega), squares_in s n hn l hl h4.2, bnd_s, decide_eq_true h4, Bool.true_and, wk (by omega) (by omega)]
      cases l.all okSide <;> rfl
    · rw [sel_no (by omega), decide_eq_false h4, Bool.false_and, sel_f]
  have s0 := step 0 s.Cols (.inl rfl) rfl
  have s1 := step 1 s.Rows (.inr rfl) rfl
  have s2 : impl_SquaresOf_l12 s ((2 : Nat) : Int) = some (.done (.out ())) := by unfold impl_SquaresOf_l12; rw [sel_no (by simp)]
  rw [show (0 : Int) = ((0 : Nat) : Int) from rfl]
  unfold squares at h ⊢
  unfold sumIf at h ⊢
  cases e0 : okSides s.Cols with
  | false => rw [e0, sel_f] at s0; rw [loop_done s0, bnd_s]; simp
  | true =>
    rw [e0, sel_t] at s0
    rw [loop_go s0]
    cases e1 : okSides s.Rows with
    | false => rw [e1, sel_f] at s1; rw [loop_done s1, bnd_s]; simp
    | true =>
      rw [e1, sel_t] at s1
      rw [loop_go s1, loop_done s2, bnd_s]
      simp only
      rw [e0, e1, if_pos rfl, if_pos rfl] at h
      rw [impl_sumOf_eq _ e0, bnd_s, impl_sumOf_eq _ e1, bnd_s, wk (by omega) (by omega)]
      simp
def levelSquares (n : Int) : Int := if n = 1 then 16 else if n = 2 then 64 else if n = 3 then 256 else 0
theorem spec_LevelSquares_eq (n : Int) : spec_LevelSquares n = some (levelSquares n) := by
  unfold spec_LevelSquares levelSquares
  simp only [sel_ite, beq_iff_eq]
  repeat' split
  all_goals rfl
theorem impl_LevelSquares_eq (n : Int) : impl_LevelSquares n = some (levelSquares n) := by
  unfold impl_LevelSquares levelSquares
  rw [impl_within_eq, bnd_s, sel_n]
  by_cases h : 1 ≤ n ∧ n ≤ 3
  · rw [sel_yes h, wk (by omega) (by omega), req_p (by simp only [List.length_cons, List.length_nil]; omega), req_p (by simp only [List.length_cons, List.length_nil]; omega)]
    rcases (show n = 1 ∨ n = 2 ∨ n = 3 by omega) with rfl | rfl | rfl <;> rfl
  · rw [sel_no h, if_neg (by omega), if_neg (by omega), if_neg (by omega)]
def seqOk (s : Seq) : Bool := decide (1 ≤ squares s ∧ squares s ≤ levelSquares s.Level) && decide (3 ≤ s.Bits ∧ s.Bits ≤ 8)
theorem spec_SeqOk_eq (s : Seq) : spec_SeqOk s = some (seqOk s) := by
  unfold spec_SeqOk seqOk
  simp only [spec_SquaresOf_eq, spec_LevelSquares_eq, spec_l01In_eq, bnd_s, sel_and]
theorem impl_SeqOk_eq (s : Seq) (h1 : s.Cols.length ≤ maxLen) (h2 : s.Rows.length ≤ maxLen) : impl_SeqOk s = some (seqOk s) := by
  unfold impl_SeqOk seqOk
  simp only [impl_SquaresOf_eq s h1 h2, impl_LevelSquares_eq, impl_within_eq, bnd_s, sel_and]
theorem seqOk_sides {s : Seq} (h : seqOk s = true) : okSides s.Cols = true ∧ okSides s.Rows = true ∧ 3 ≤ s.Bits ∧ s.Bits ≤ 8 := by
  unfold seqOk at h
  rw [Bool.and_eq_true, decide_eq_true_eq, decide_eq_true_eq] at h
  obtain ⟨⟨h1, _⟩, h3⟩ := h
  unfold squares sumIf at h1
  refine ⟨?_, ?_, h3⟩
  · refine Classical.byContradiction fun e => ?_
    rw [if_neg e, Int.zero_mul] at h1; omega
  · refine Classical.byContradiction fun e => ?_
    rw [if_neg e, Int.mul_zero] at h1; omega
def tilesOf (s : Seq) : Int := if seqOk s = true then (s.Cols.length : Int) * s.Rows.length else 0
theorem okSides_len {l : List Int} (h : okSides l = true) : 1 ≤ l.length ∧ l.length ≤ 4 := by
  unfold okSides at h; rw [Bool.and_eq_true, decide_eq_true_eq] at h; exact h.1
theorem tiles_small {s : Seq} (h : seqOk s = true) : 1 ≤ (s.Cols.length : Int) * s.Rows.length ∧ (s.Cols.length : Int) * s.Rows.length ≤ 16 := by
  obtain ⟨h1, h2, _⟩ := seqOk_sides h
  have a := okSides_len h1
  have b := okSides_len h2
  have e : ∀ x y : Nat, 1 ≤ x → x ≤ 4 → 1 ≤ y → y ≤ 4 → 1 ≤ x * y ∧ x * y ≤ 16 := by
    intro x y h1 h2 h3 h4
    rcases (show x = 1 ∨ x = 2 ∨ x = 3 ∨ x = 4 by omega) with rfl | rfl | rfl | rfl <;> omega
  have := e _ _ a.1 a.2 b.1 b.2
  rw [← Int.natCast_mul]; omega
theorem spec_TilesOf_eq (s : Seq) : spec_TilesOf s = some (tilesOf s) := by
  unfold spec_TilesOf tilesOf
  rw [spec_SeqOk_eq, bnd_s, sel_n]
  cases h : seqOk s with
  | false => rfl
  | true => have := tiles_small h; rw [sel_t, wk (by omega) (by omega), if_pos rfl]
theorem impl_TilesOf_eq (s : Seq) (h1 : s.Cols.length ≤ maxLen) (h2 : s.Rows.length ≤ maxLen) : impl_TilesOf s = some (tilesOf s) := by
  unfold impl_TilesOf tilesOf
  rw [impl_SeqOk_eq s h1 h2, bnd_s, sel_n]
  cases h : seqOk s with
  | false => rfl
  | true => have := tiles_small h; rw [sel_t, wk (by omega) (by omega), if_pos rfl]
def sizeOfS (s : Seq) : Int × Int := if seqOk s = true then (8 * isum s.Cols, 8 * isum s.Rows) else (0, 0)
theorem isum_ok {l : List Int} (h : okSides l = true) : 1 ≤ isum l ∧ isum l ≤ 32 := by
  unfold okSides at h
  rw [Bool.and_eq_true, decide_eq_true_eq] at h
  have := isum_bounds h.2
  omega
theorem spec_SizeOf_eq (s : Seq) : spec_SizeOf s = some (sizeOfS s) := by
  unfold spec_SizeOf sizeOfS
  rw [spec_SeqOk_eq, bnd_s, sel_n]
  cases h : seqOk s with
  | false => rfl
  | true =>
    obtain ⟨h1, h2, _⟩ := seqOk_sides h
    have a := isum_ok h1
    have b := isum_ok h2
    rw [sel_t, spec_l05Sum_eq, bnd_s, spec_l05Sum_eq, bnd_s, if_pos rfl]
    unfold sumIf
    rw [if_pos h1, if_pos h2, wk (by omega) (by omega), wk (by omega) (by omega)]
theorem impl_SizeOf_eq (s : Seq) (h1 : s.Cols.length ≤ maxLen) (h2 : s.Rows.length ≤ maxLen) : impl_SizeOf s = some (sizeOfS s) := by
  unfold impl_SizeOf sizeOfS
  rw [impl_SeqOk_eq s h1 h2, bnd_s, sel_n]
  cases h : seqOk s with
  | false => rfl
  | true =>
    obtain ⟨h1, h2, _⟩ := seqOk_sides h
    have a := isum_ok h1
    have b := isum_ok h2
    rw [sel_t, impl_sumOf_eq _ h1, bnd_s, impl_sumOf_eq _ h2, bnd_s, if_pos rfl, wk (by omega) (by omega), wk (by omega) (by omega)]
def parOk (p : Par) : Bool := decide (0 ≤ p.Qp ∧ p.Qp ≤ 40) && !(p.Large && p.Exact)
theorem spec_ParOk_eq (p : Par) : spec_ParOk p = some (parOk p) := by
  unfold spec_ParOk parOk
  rw [spec_l01In_eq, bnd_s, sel_nor, sel_and, bnd_s]
  cases p.Large <;> cases p.Exact <;> rfl
theorem impl_ParOk_eq (p : Par) : impl_ParOk p = some (parOk p) := by
  unfold impl_ParOk parOk
  rw [impl_within_eq, bnd_s, sel_nor, sel_and, bnd_s]
  cases p.Large <;> cases p.Exact <;> rfl
def picOk (p : Pic) : Bool := decide (1 ≤ p.Wide ∧ p.Wide ≤ 256) && (decide (1 ≤ p.High ∧ p.High ≤ 256) && ((p.Dots.size : Int) == p.Wide * p.High))
theorem area_small {w h : Int} (h1 : 1 ≤ w ∧ w ≤ 256) (h2 : 1 ≤ h ∧ h ≤ 256) : 1 ≤ w * h ∧ w * h ≤ 65536 := by
  have a : w * 1 ≤ w * h := Int.mul_le_mul_of_nonneg_left h2.1 (by omega)
  have b : w * h ≤ 256 * h := Int.mul_le_mul_of_nonneg_right h1.2 (by omega)
  omega
theorem spec_PicOk_eq (p : Pic) : spec_PicOk p = some (picOk p) := by
  unfold spec_PicOk picOk
  simp only [spec_l01In_eq, bnd_s, sel_and]
  by_cases h1 : 1 ≤ p.Wide ∧ p.Wide ≤ 256
  · by_cases h2 : 1 ≤ p.High ∧ p.High ≤ 256
    · have := area_small h1 h2
      rw [wk (by omega) (by omega)]
    · rw [decide_eq_false h2, Bool.false_and, Bool.false_and]
  · rw [decide_eq_false h1, Bool.false_and, Bool.false_and]
theorem impl_PicOk_eq (p : Pic) : impl_PicOk p = some (picOk p) := by
  unfold impl_PicOk picOk
  simp only [impl_within_eq, bnd_s, sel_and]
  by_cases h1 : 1 ≤ p.Wide ∧ p.Wide ≤ 256
  · by_cases h2 : 1 ≤ p.High ∧ p.High ≤ 256
    · have := area_small h1 h2
      rw [wk (by omega) (by omega)]
    · rw [decide_eq_false h2, Bool.false_and, Bool.false_and]
  · rw [decide_eq_false h1, Bool.false_and, Bool.false_and]
def fitsS (p : Pic) (s : Seq) : Bool := picOk p && ((p.Wide == (sizeOfS s).1) && (p.High == (sizeOfS s).2))
theorem impl_fits_eq (p : Pic) (s : Seq) (h1 : s.Cols.length ≤ maxLen) (h2 : s.Rows.length ≤ maxLen) : impl_fits p s = some (fitsS p s) := by
  unfold impl_fits fitsS
  simp only [impl_SizeOf_eq s h1 h2, impl_PicOk_eq, bnd_s, sel_and]
theorem spec_RateOk_eq (r : Rate) : spec_RateOk r = some (rateOk r) := by
  unfold spec_RateOk rateOk
  simp only [spec_l01In_eq, bnd_s]
  by_cases h1 : 0 ≤ r.Qp ∧ r.Qp ≤ 40
  · rw [sel_yes h1]
    by_cases h2 : 1 ≤ r.Target ∧ r.Target ≤ 100000
    · rw [sel_yes h2, wk (by omega) (by omega), wk (by omega) (by omega), bnd_s]
      simp only [h1.1, h1.2, h2.1, h2.2, true_and]
    · rw [sel_no h2, bnd_s]; congr 1; symm; rw [decide_eq_false_iff_not]; exact fun h => h2 ⟨h.2.2.1, h.2.2.2.1⟩
  · rw [sel_no h1, bnd_s]; congr 1; symm; rw [decide_eq_false_iff_not]; exact fun h => h1 ⟨h.1, h.2.1⟩
def sourceOk (s : Source) : Bool :=
  decide (tilesOf s.Seq = 1) && parOk s.Par && rateOk s.Rate && decide (0 ≤ s.Frame ∧ s.Frame < 2 ^ s.Seq.Bits.toNat) && decide ((1 ≤ s.Every ∧ s.Every ≤ 1000) ∧ (0 ≤ s.Since ∧ s.Since ≤ 1000) ∧ (0 ≤ s.Reach ∧ s.Reach ≤ 4)) &&
  (if s.Has = true then fitsS s.Ref s.Seq else decide (s.Ref.Wide = 0 ∧ s.Ref.High = 0 ∧ s.Ref.Dots.size = 0))
theorem bits_pow {b : Int} (h : 3 ≤ b ∧ b ≤ 8) : (2 : Int) ^ min b.toNat (IntKind.bits .i64) = 2 ^ b.toNat ∧ (8 : Int) ≤ 2 ^ b.toNat ∧ (2 : Int) ^ b.toNat ≤ 256 := by
  rcases (show b = 3 ∨ b = 4 ∨ b = 5 ∨ b = 6 ∨ b = 7 ∨ b = 8 by omega) with rfl | rfl | rfl | rfl | rfl | rfl <;> decide
theorem tiles_one {s : Seq} (h : tilesOf s = 1) : seqOk s = true := by
  unfold tilesOf at h
  refine Classical.byContradiction fun e => ?_
  rw [if_neg e] at h; cases h
theorem size_zero (b : ByteArray) : (b.toList == (⟨#[]⟩ : ByteArray).toList) = decide (b.size = 0) := by
  rw [ByteArray.toList_eq, ByteArray.toList_eq, Bool.eq_iff_iff]
  obtain ⟨⟨l⟩⟩ := b
  show (l == []) = true ↔ decide (l.length = 0) = true
  cases l <;> simp
theorem spec_SourceOk_eq (s : Source) (hb : (Lit.int .i64 s.Seq.Bits).wf = true) : spec_SourceOk s = some (sourceOk s) := by
  have hb' := wf64 hb
  unfold spec_SourceOk sourceOk
  rw [spec_TilesOf_eq, bnd_s]
  by_cases h1 : tilesOf s.Seq = 1
  · have hs := (seqOk_sides (tiles_one h1)).2.2
    have hp := bits_pow hs
    have e64 : wrapK .u64 s.Seq.Bits = s.Seq.Bits := by
      show IntKind.wrap .u64 s.Seq.Bits = _
      simp [IntKind.wrap, IntKind.signed, IntKind.bits]; omega
    rw [sel_neg (by simp [h1]), e64, req_p (by omega), hp.1, wk (by omega) (by omega), spec_ParOk_eq, bnd_s, spec_RateOk_eq, bnd_s, sel_or, sel_nor, sel_nor, bnd_s]
    simp only [spec_l01In_eq, bnd_s, sel_nor]
    rw [decide_eq_true h1, Bool.true_and]
    cases hpar : parOk s.Par with
    | false => rfl
    | true =>
      cases hr : rateOk s.Rate with
      | false => rfl
      | true =>
        by_cases hf : 0 ≤ s.Frame ∧ s.Frame < 2 ^ s.Seq.Bits.toNat
        · rw [sel_neg (by simp; omega), decide_eq_true hf]
          by_cases h3 : (1 ≤ s.Every ∧ s.Every ≤ 1000) ∧ (0 ≤ s.Since ∧ s.Since ≤ 1000) ∧ (0 ≤ s.Reach ∧ s.Reach ≤ 4)
          · rw [sel_neg (by simp; omega), decide_eq_true h3, spec_SizeOf_eq, bnd_s]
            cases s.Has with
            | true =>
              rw [sel_t]
              simp only [spec_PicOk_eq, bnd_s, sel_and, fitsS]
              rfl
            | false =>
              rw [sel_f]
              simp only [bnd_s, sel_and]
              congr 1
              rw [Bool.eq_iff_iff]; simp
          · rw [sel_pos (by simp; omega), decide_eq_false h3]; simp
        · rw [sel_pos (by simp; omega), decide_eq_false hf]; simp
  · rw [sel_pos (by simpa using h1), bnd_s, sel_t, decide_eq_false h1]; simp
theorem impl_SourceOk_eq (s : Source) (h1 : s.Seq.Cols.length ≤ maxLen) (h2 : s.Seq.Rows.length ≤ maxLen) : impl_SourceOk s = some (sourceOk s) := by
  unfold impl_SourceOk sourceOk
  rw [impl_TilesOf_eq _ h1 h2, bnd_s]
  by_cases ht : tilesOf s.Seq = 1
  · have hs := (seqOk_sides (tiles_one ht)).2.2
    have hp := bits_pow hs
    rw [sel_neg (by simp [ht]), req_p (by omega), hp.1, wk (e := 1 * 2 ^ s.Seq.Bits.toNat) (by omega) (by omega), wk (by omega) (by omega), impl_ParOk_eq, bnd_s, impl_RateOk_eq, bnd_s]
    simp only [impl_within_eq, bnd_s, sel_nor]
    rw [decide_eq_true ht, Bool.true_and]
    cases hpar : parOk s.Par with
    | false => rfl
    | true =>
      cases hr : rateOk s.Rate with
      | false => rfl
      | true =>
        by_cases hf : 0 ≤ s.Frame ∧ s.Frame < 2 ^ s.Seq.Bits.toNat
        · rw [decide_eq_true hf]
          by_cases h3 : (1 ≤ s.Every ∧ s.Every ≤ 1000) ∧ (0 ≤ s.Since ∧ s.Since ≤ 1000) ∧ (0 ≤ s.Reach ∧ s.Reach ≤ 4)
          · rw [sel_neg (by simp; omega), decide_eq_true h3, impl_fits_eq _ _ h1 h2, bnd_s, size_zero]
            cases s.Has with
            | true => rfl
            | false =>
              rw [sel_f]
              congr 1
              rw [Bool.eq_iff_iff]; simp
          · rw [sel_pos (by simp; omega), decide_eq_false h3]; simp
        · rw [sel_pos (by simp; omega), decide_eq_false hf]; simp
  · rw [sel_pos (by simpa using ht), bnd_s, sel_t, decide_eq_false ht]; simp
theorem laws_eqIntS_self (l : List Int) (hl : l.length ≤ 9223372036854775806) : laws_eqIntS l l = some true := by
  unfold laws_eqIntS
  rw [sel_neg (by simp), self_loop l.length (f := laws_eqIntS_l2 l l) (by
    intro i hi
    unfold laws_eqIntS_l2
    rw [sel_yes (by omega), req_p (by omega), req_p (by omega), sel_neg (by simp), wk (by omega) (by omega)]
    rfl) (by unfold laws_eqIntS_l2; rw [sel_no (by omega)])]
  rfl
def markI (k : Int) : List Int → List Int
  | [] => []
  | _ :: r => k :: markI (k + 1) r
theorem laws_markIntS_eq (l : List Int) (k : Int) (h0 : 0 < k) (h1 : k ≤ 1000000000) (hl : l.length ≤ 100000000) : laws_markIntS l k = some (k + l.length, markI k l) := by
  unfold laws_markIntS
  have key : ∀ (r a : List Int) (j : Int), 0 < j → j + r.length ≤ 2000000000 → a.length + r.length ≤ 100000000 → loop laws_markIntS_l2 (j, (a.length : Int), a ++ r) = some (j + r.length, a ++ markI j r) := by
    intro r
    induction r with
    | nil =>
      intro a j hj1 hj2 hl
      refine ldone ?_
      unfold laws_markIntS_l2
      simp only [List.append_nil]
      rw [sel_no (by omega)]
      simp [markI]
    | cons p r ih =>
      intro a j hj1 hj2 hl
      simp only [List.length_cons] at hj2 hl ⊢
      have hcl : ∀ x : Int, (a ++ x :: r).length = a.length + (r.length + 1) := fun x => by simp
      refine lgo (y := (j + 1, ((a ++ [j]).length : Int), (a ++ [j]) ++ r)) ?_ ?_
      · unfold laws_markIntS_l2
        simp only [Int.toNat_natCast, set_mid, hcl]
        rw [sel_yes (by omega), req_p (by omega), req_p (by omega), wk (e := j + 1) (by omega) (by omega), wk (by omega) (by omega)]
        simp
      · rw [ih _ (j + 1) (by omega) (by omega) (by simp; omega)]
        simp only [markI, List.append_assoc, List.singleton_append]
        congr 2
        omega
  have := key l [] k h0 (by omega) (by simp; omega)
  simp only [List.length_nil, List.nil_append] at this
  rw [show ((k, 0, l) : Int × Int × List Int) = (k, ((0 : Nat) : Int), l) from rfl, this]
  rfl
theorem laws_eqSeq_self (s : Seq) (h1 : s.Cols.length ≤ 9223372036854775806) (h2 : s.Rows.length ≤ 9223372036854775806) : laws_eqSeq s s = some true := by
  unfold laws_eqSeq
  simp only [laws_eqIntS_self _ h1, laws_eqIntS_self _ h2, bnd_s, bne_self_eq_false, sel_f, Bool.not_true]
theorem laws_markSeq_eq (s : Seq) (k : Int) (h0 : 0 < k) (h1 : k ≤ 100000000) (hc : s.Cols.length ≤ 100000000) (hr : s.Rows.length ≤ 100000000) : laws_markSeq s k = some (k + s.Cols.length + s.Rows.length, (⟨s.Level, s.Bits, markI k s.Cols, markI (k + s.Cols.length) s.Rows⟩ : Seq)) := by
  unfold laws_markSeq
  rw [laws_markIntS_eq _ _ h0 (by omega) hc, bnd_s, laws_markIntS_eq _ _ (by omega) (by omega) hr, bnd_s]
theorem laws_eqPar_self (p : Par) : laws_eqPar p p = some true := by
  unfold laws_eqPar
  simp only [bne_self_eq_false, sel_f, beq_self_eq_true, Bool.not_true]
theorem laws_eqRate_self (p : Rate) : laws_eqRate p p = some true := by
  unfold laws_eqRate
  simp only [bne_self_eq_false, sel_f]
theorem laws_eqPic_self (p : Pic) : laws_eqPic p p = some true := by
  unfold laws_eqPic
  simp only [bne_self_eq_false, sel_f, beq_self_eq_true, Bool.not_true]
theorem laws_eqSource_self (s : Source) (h1 : s.Seq.Cols.length ≤ 9223372036854775806) (h2 : s.Seq.Rows.length ≤ 9223372036854775806) : laws_eqSource s s = some true := by
  unfold laws_eqSource
  simp only [laws_eqSeq_self _ h1 h2, laws_eqPar_self, laws_eqRate_self, laws_eqPic_self, bnd_s, bne_self_eq_false, sel_f, beq_self_eq_true, Bool.not_true]
theorem str_append (a b : List Int) : strOfNums a ++ strOfNums b = strOfNums (a ++ b) := by
  unfold strOfNums
  rw [List.map_append]
  apply ByteArray.ext
  simp
theorem str_nil : (⟨#[]⟩ : ByteArray) = strOfNums [] := rfl
def byteL (l : List Int) : Prop := ∀ x ∈ l, 0 ≤ x ∧ x ≤ 255
theorem nums_str (l : List Int) (h : byteL l) : numsOf (strOfNums l) = l := by
  unfold numsOf
  rw [strOfNums_data, List.map_map]
  have : ∀ x ∈ l, ((fun b : UInt8 => (b.toNat : Int)) ∘ fun n : Int => UInt8.ofNat n.toNat) x = x := by
    intro x hx
    have := h x hx
    simp only [Function.comp_apply, UInt8.toNat_ofNat']
    omega
  rw [List.map_congr_left this, List.map_id']
theorem bt_str (l : List Int) (h : byteL l) (i : Nat) (hi : i < l.length) : btOf (strOfNums l) (i : Int) = l.getD i 0 := by
  unfold btOf
  rw [dif_pos (by rw [Int.toNat_natCast, strOfNums_size]; exact hi)]
  have hx := h l[i] (List.getElem_mem hi)
  rw [getD_at l i hi]
  show ((((l.map fun n => UInt8.ofNat n.toNat).toArray)[(i : Int).toNat]'(by simpa using hi)).toNat : Int) = _
  simp only [Int.toNat_natCast, List.getElem_toArray, List.getElem_map, UInt8.toNat_ofNat']
  omega
theorem and_1 (y : Int) : IntKind.wrap .i64 (BitVec.ofInt (IntKind.bits .i64) y &&& BitVec.ofInt (IntKind.bits .i64) 1).toNat = y % 2 := by
  have h : (BitVec.ofInt 64 y &&& BitVec.ofInt 64 1).toNat = (y % 2).toNat := by
    rw [BitVec.toNat_and]
    have e1 : (BitVec.ofInt 64 1).toNat = 1 := by decide
    rw [e1, Nat.and_one_is_mod, BitVec.toNat_ofInt]
    omega
  show IntKind.wrap .i64 ((BitVec.ofInt 64 y &&& BitVec.ofInt 64 1).toNat : Int) = _
  rw [h, ← wrapK_eq, wk (by omega) (by omega)]
  omega
def fixL : Nat → Int → List Int
  | 0, _ => []
  | w + 1, n => fixL w (n / 2) ++ [48 + n % 2]
theorem fixL_len : ∀ (w : Nat) (n : Int), (fixL w n).length = w
  | 0, _ => rfl
  | w + 1, n => by rw [fixL, List.length_append, fixL_len w]; rfl
def bitL (l : List Int) : Prop := ∀ x ∈ l, x = 48 ∨ x = 49
theorem bitL_append {a b : List Int} (ha : bitL a) (hb : bitL b) : bitL (a ++ b) := fun x hx => (List.mem_append.1 hx).elim (ha x) (hb x)
theorem bitL_rep (n : Nat) : bitL (List.replicate n 48) := fun x hx => .inl (List.eq_of_mem_replicate hx)
theorem bitL_byte {l : List Int} (h : bitL l) : byteL l := fun x hx => by rcases h x hx with e | e <;> omega
theorem bitL_nil : bitL [] := fun x hx => by simp at hx
theorem fixL_bit : ∀ (w : Nat) (n : Int), bitL (fixL w n)
  | 0, _ => bitL_nil
  | w + 1, n => bitL_append (fixL_bit w (n / 2)) (fun x hx => by rw [List.mem_singleton.1 hx]; omega)
theorem signs_loop (w : Nat) : ∀ (k : Nat) (n : Int) (s : List Int), 0 ≤ n → n ≤ 9223372036854775807 → k + s.length ≤ 100000 → loop impl_signs_l2 (n, (k : Int) - 1, List.replicate k 0 ++ s) = some (fixL k n ++ s) := by
  intro k
  induction k with
  | zero =>
    intro n s h0 h1 hl
    refine ldone ?_
    unfold impl_signs_l2
    simp only
    rw [sel_no (by omega)]
    simp [fixL]
  | succ k ih =>
    intro n s h0 h1 hl
    have e1 : List.replicate (k + 1) (0 : Int) ++ s = List.replicate k 0 ++ 0 :: s := by rw [List.replicate_succ', List.append_assoc]; rfl
    have e2 := set_mid (List.replicate k (0 : Int)) 0 (48 + n % 2) s
    rw [List.length_replicate] at e2
    refine lgo (y := (n / 2, (k : Int) - 1, List.replicate k 0 ++ (48 + n % 2) :: s)) ?_ ?_
    · unfold impl_signs_l2
      have e3 : (((k + 1 : Nat) : Int) - 1).toNat = k := by omega
      simp only [e1, e3]
      rw [sel_yes (by omega), req_p (by simp; omega), req_p (by simp), req_p (by decide), and_1, wk (e := 48 + n % 2) (by omega) (by omega), w8 (by omega) (by omega), e2, wk (by omega) (by omega)]
      rw [show ((k + 1 : Nat) : Int) - 1 - 1 = (k : Int) - 1 by omega]
      rfl
    · rw [ih (n / 2) ((48 + n % 2) :: s) (by omega) (by omega) (by simp; omega), fixL, List.append_assoc]; rfl
theorem impl_signs_eq (n : Int) (w : Nat) (h0 : 0 ≤ n) (h1 : n ≤ 9223372036854775807) (hw : w ≤ 1000) : impl_signs n (w : Int) = some (strOfNums (fixL w n)) := by
  unfold impl_signs
  rw [req_p (by omega), wk (by omega) (by omega), Int.toNat_natCast]
  have := signs_loop w w n [] h0 h1 (by simp; omega)
  rw [List.append_nil, List.append_nil] at this
  rw [this, bnd_s]
theorem fix_loop : ∀ (k : Nat) (n : Int) (s : List Int), 0 ≤ n → n ≤ 9223372036854775807 → k + s.length ≤ 100000 → loop spec_l02Fix_l2 (n, (k : Int) - 1, List.replicate k 0 ++ s) = some (fixL k n ++ s) := by
  intro k
  induction k with
  | zero =>
    intro n s h0 h1 hl
    refine ldone ?_
    unfold spec_l02Fix_l2
    simp only
    rw [sel_no (by omega)]
    simp [fixL]
  | succ k ih =>
    intro n s h0 h1 hl
    have e1 : List.replicate (k + 1) (0 : Int) ++ s = List.replicate k 0 ++ 0 :: s := by rw [List.replicate_succ', List.append_assoc]; rfl
    have e2 := set_mid (List.replicate k (0 : Int)) 0 (48 + n % 2) s
    rw [List.length_replicate] at e2
    refine lgo (y := (n / 2, (k : Int) - 1, List.replicate k 0 ++ (48 + n % 2) :: s)) ?_ ?_
    · unfold spec_l02Fix_l2
      have e3 : (((k + 1 : Nat) : Int) - 1).toNat = k := by omega
      simp only [e1, e3]
      rw [sel_yes (by omega), req_p (by decide), req_p (by simp; omega), req_p (by simp), req_p (by decide), tmod_pos h0, tdiv_pos h0, wk (e := 48 + n % 2) (by omega) (by omega), w8 (by omega) (by omega), e2, wk (by omega) (by omega), wk (by omega) (by omega)]
      rw [show ((k + 1 : Nat) : Int) - 1 - 1 = (k : Int) - 1 by omega]
    · rw [ih (n / 2) ((48 + n % 2) :: s) (by omega) (by omega) (by simp; omega), fixL, List.append_assoc]; rfl
theorem spec_l02Fix_eq (n : Int) (w : Nat) (h0 : 0 ≤ n) (h1 : n ≤ 9223372036854775807) (hw : w ≤ 1000) : spec_l02Fix n (w : Int) = some (strOfNums (fixL w n)) := by
  unfold spec_l02Fix
  rw [req_p (by omega), wk (by omega) (by omega), Int.toNat_natCast]
  have := fix_loop w n [] h0 h1 (by simp; omega)
  rw [List.append_nil, List.append_nil] at this
  rw [this, bnd_s]
def figs (m : Nat) : Nat := if h : m = 0 then 0 else figs (m / 2) + 1
termination_by m
decreasing_by omega
def binL (m : Nat) : List Int := if h : m = 0 then [] else binL (m / 2) ++ [48 + ((m % 2 : Nat) : Int)]
termination_by m
decreasing_by omega
theorem binL_len (m : Nat) : (binL m).length = figs m := by
  induction m using Nat.strongRecOn with
  | _ m ih =>
    rw [binL, figs]
    by_cases h : m = 0
    · rw [dif_pos h, dif_pos h]; rfl
    · rw [dif_neg h, dif_neg h, List.length_append, ih (m / 2) (by omega)]; rfl
theorem figs_le {m j : Nat} (h : m < 2 ^ j) : figs m ≤ j := by
  induction j generalizing m with
  | zero => rw [figs, dif_pos (by simp at h; omega)]; omega
  | succ j ih =>
    rw [figs]
    split
    · omega
    · have := ih (m := m / 2) (by rw [Nat.pow_succ] at h; omega)
      omega
theorem figs_pos {m : Nat} (h : 0 < m) : 1 ≤ figs m := by rw [figs, dif_neg (by omega)]; omega
theorem binL_bit (m : Nat) : bitL (binL m) := by
  induction m using Nat.strongRecOn with
  | _ m ih =>
    rw [binL]
    by_cases h : m = 0
    · rw [dif_pos h]; exact bitL_nil
    · rw [dif_neg h]; exact bitL_append (ih (m / 2) (by omega)) (fun x hx => by rw [List.mem_singleton.1 hx]; omega)
theorem fixL_bin (z m : Nat) : fixL (figs m + z) m = List.replicate z 48 ++ binL m := by
  induction m using Nat.strongRecOn with
  | _ m ih =>
    rw [binL, figs]
    by_cases h : m = 0
    · rw [dif_pos h, dif_pos h, h, List.append_nil, Nat.zero_add]
      clear ih h
      induction z with
      | zero => rfl
      | succ z iz => rw [fixL, show ((0 : Nat) : Int) / 2 = ((0 : Nat) : Int) from rfl, iz, List.replicate_succ']; rfl
    · rw [dif_neg h, dif_neg h, show figs (m / 2) + 1 + z = figs (m / 2) + z + 1 by omega, fixL, show (m : Int) / 2 = ((m / 2 : Nat) : Int) by omega, ih (m / 2) (by omega), List.append_assoc, show (m : Int) % 2 = ((m % 2 : Nat) : Int) by omega]
def ueL (n : Nat) : List Int := List.replicate (figs (n + 1) - 1) 48 ++ binL (n + 1)
theorem ueL_bit (n : Nat) : bitL (ueL n) := bitL_append (bitL_rep _) (binL_bit _)
theorem ueL_len (n : Nat) (h : n ≤ 1000000) : (ueL n).length ≤ 39 ∧ 1 ≤ (ueL n).length := by
  unfold ueL
  rw [List.length_append, List.length_replicate, binL_len]
  have := figs_le (m := n + 1) (j := 20) (by omega)
  have := figs_pos (m := n + 1) (by omega)
  omega
theorem figuresOf_loop : ∀ (m : Nat) (k : Int), 0 ≤ k → k ≤ 1000 → m ≤ 9223372036854775807 → loop impl_figuresOf_l2 ((m : Int), k) = some (k + figs m) := by
  have main : ∀ (j m : Nat) (k : Int), m < 2 ^ j → j ≤ 63 → 0 ≤ k → k + j ≤ 2000 → loop impl_figuresOf_l2 ((m : Int), k) = some (k + figs m) := by
    intro j
    induction j with
    | zero =>
      intro m k hm _ _ _
      have : m = 0 := by simp at hm; omega
      subst this
      refine ldone ?_
      unfold impl_figuresOf_l2
      simp only
      rw [sel_no (by omega), figs, dif_pos rfl]; simp
    | succ j ih =>
      intro m k hm hj h0 h1
      by_cases h : m = 0
      · subst h
        refine ldone ?_
        unfold impl_figuresOf_l2
        simp only
        rw [sel_no (by omega), figs, dif_pos rfl]; simp
      · refine lgo (y := (((m / 2 : Nat) : Int), k + 1)) ?_ ?_
        · unfold impl_figuresOf_l2
          simp only
          rw [sel_yes (by omega), req_p (by decide), wk (by omega) (by omega)]
          show some (Lp.go ((m : Int) / 2, k + 1)) = _
          congr 3
        · rw [ih (m / 2) (k + 1) (by rw [Nat.pow_succ] at hm; omega) (by omega) (by omega) (by omega), figs.eq_def m, dif_neg h]
          congr 1; omega
  intro m k h0 h1 hm
  exact main 63 m k (by omega) (by omega) h0 (by omega)
theorem impl_ue_eq (n : Nat) (h : n ≤ 1000000) : impl_ue (n : Int) = some (strOfNums (ueL n)) := by
  unfold impl_ue impl_figuresOf
  rw [wk (e := (n : Int) + 1) (by omega) (by omega)]
  have := figuresOf_loop (n + 1) 0 (by omega) (by omega) (by omega)
  rw [show ((n + 1 : Nat) : Int) = (n : Int) + 1 by omega, Int.zero_add] at this
  rw [this, bnd_s, bnd_s]
  have h1 := figs_le (m := n + 1) (j := 20) (by omega)
  have h2 := figs_pos (m := n + 1) (by omega)
  rw [wk (e := 2 * (figs (n + 1) : Int)) (by omega) (by omega), wk (by omega) (by omega), show 2 * (figs (n + 1) : Int) - 1 = ((figs (n + 1) + (figs (n + 1) - 1) : Nat) : Int) by omega, impl_signs_eq _ _ (by omega) (by omega) (by omega), bnd_s,
    show (n : Int) + 1 = ((n + 1 : Nat) : Int) by omega, fixL_bin]
  rfl
theorem spec_l01Long_eq (n : Nat) (x : Int) (h : n ≤ 1000000000) : spec_l01Long (n : Int) x = some (strOfNums (List.replicate n x)) := by
  unfold spec_l01Long
  rw [req_p (by omega), Int.toNat_natCast]
  have key : ∀ (k a : Nat), k + a = n → loop (spec_l01Long_l2 (n : Int) x) ((a : Int), List.replicate a x ++ List.replicate k 0) = some (List.replicate n x) := by
    intro k
    induction k with
    | zero =>
      intro a ha
      refine ldone ?_
      unfold spec_l01Long_l2
      simp only
      rw [sel_no (by omega)]
      simp; omega
    | succ k ih =>
      intro a ha
      have e2 := set_mid (List.replicate a x) 0 x (List.replicate k 0)
      rw [List.length_replicate] at e2
      refine lgo (y := (((a + 1 : Nat) : Int), List.replicate (a + 1) x ++ List.replicate k 0)) ?_ (ih (a + 1) (by omega))
      unfold spec_l01Long_l2
      simp only [List.replicate_succ (n := k), Int.toNat_natCast]
      rw [sel_yes (by omega), req_p (by simp; omega), req_p (by simp), e2, wk (by omega) (by omega), List.replicate_succ' (n := a), List.append_assoc]
      rfl
  have := key n 0 rfl
  rw [List.replicate_zero, List.nil_append] at this
  exact bnd_e this
theorem spec_l03Ue_eq (n : Nat) (h : n ≤ 1000000) : spec_l03Ue (n : Int) = some (strOfNums (ueL n)) := by
  have main : ∀ (j m : Nat) (s : List Int), m < 2 ^ j → j ≤ 63 → s.length + j ≤ 1000 → loop spec_l03Ue_l2 ((m : Int), strOfNums s) = some (strOfNums (binL m ++ s)) := by
    intro j
    induction j with
    | zero =>
      intro m s hm _ _
      have : m = 0 := by simp at hm; omega
      subst this
      refine ldone ?_
      unfold spec_l03Ue_l2
      simp only
      rw [sel_no (by omega), binL, dif_pos rfl]; rfl
    | succ j ih =>
      intro m s hm hj hl
      by_cases h : m = 0
      · subst h
        refine ldone ?_
        unfold spec_l03Ue_l2
        simp only
        rw [sel_no (by omega), binL, dif_pos rfl]; rfl
      · have hlt : (m : Int) < 2 ^ (j + 1) := by exact_mod_cast hm
        have hle : (2 : Int) ^ (j + 1) ≤ 2 ^ 63 := by
          have := Nat.pow_le_pow_right (n := 2) (by omega) hj
          exact_mod_cast this
        have hbd : (m : Int) < 9223372036854775808 := Int.lt_of_lt_of_le hlt (by simpa using hle)
        refine lgo (y := (((m / 2 : Nat) : Int), strOfNums ((48 + ((m % 2 : Nat) : Int)) :: s))) ?_ ?_
        · unfold spec_l03Ue_l2
          simp only
          rw [sel_yes (by omega), req_p (by decide), tmod_pos (by omega), tdiv_pos (by omega), wk (e := 48 + (m : Int) % 2) (by omega) (by omega), w8 (by omega) (by omega), req_p (by simp only [strOfNums_size, List.length_singleton]; omega), req_p (by decide), wk (by omega) (by omega), str_append]
          congr 3
        · rw [ih (m / 2) _ (by rw [Nat.pow_succ] at hm; omega) (by omega) (by simp; omega)]
          conv => rhs; rw [binL, dif_neg h]
          rw [List.append_assoc]; rfl
  unfold spec_l03Ue
  have h1 := figs_le (m := n + 1) (j := 20) (by omega)
  have h2 := figs_pos (m := n + 1) (by omega)
  rw [wk (e := (n : Int) + 1) (by omega) (by omega), str_nil, show (n : Int) + 1 = ((n + 1 : Nat) : Int) by omega, main 63 (n + 1) [] (by omega) (by omega) (by simp), bnd_s, List.append_nil, strOfNums_size, binL_len, wk (by omega) (by omega), show (figs (n + 1) : Int) - 1 = ((figs (n + 1) - 1 : Nat) : Int) by omega, spec_l01Long_eq _ _ (by omega), bnd_s,
    req_p (by simp only [strOfNums_size, List.length_replicate]; omega), str_append]
  rfl
theorem bit_test (x : Int) (h : x = 48 ∨ x = 49) : ((x != 48) && (x != 49)) = false := by rcases h with rfl | rfl <;> rfl
theorem row_loop (l : List Int) (hl : bitL l) (hn : l.length ≤ 9223372036854775806) (f : Int → Option (Lp Int (Ou Unit Bool)))
    (h : ∀ i : Nat, i < l.length → f (i : Int) = sel (((l.getD i 0) != 48) && ((l.getD i 0) != 49)) (some (.done (.ret false))) (some (.go ((i + 1 : Nat) : Int)))) (h0 : f (l.length : Int) = some (.done (.out ()))) : loop f 0 = some (.out ()) :=
  self_loop l.length (fun i hi => by rw [h i hi, bit_test _ (by rw [getD_at l i hi]; exact hl _ (List.getElem_mem hi)), sel_f]) h0
theorem spec_l02Row_eq (l : List Int) (hl : bitL l) (hn : l.length ≤ 9223372036854775806) : spec_l02Row (strOfNums l) = some true := by
  unfold spec_l02Row
  rw [row_loop l hl hn (spec_l02Row_l2 (strOfNums l)) (fun i hi => by
    unfold spec_l02Row_l2
    rw [strOfNums_size, bt_str l (bitL_byte hl) i hi, sel_yes (by omega), req_p (by omega), req_p (by omega), sel_and, bnd_s, wk (by omega) (by omega)]; rfl) (by
    unfold spec_l02Row_l2; rw [strOfNums_size, sel_no (by omega)])]
  rfl
theorem spec_RowOk_eq (l : List Int) (hl : bitL l) (hn : l.length ≤ 400000) : spec_RowOk (strOfNums l) = some true := by
  unfold spec_RowOk
  rw [strOfNums_size, sel_yes (by omega), spec_l02Row_eq l hl (by omega), bnd_s, bnd_s]
theorem impl_RowOk_eq (l : List Int) (hl : bitL l) (hn : l.length ≤ 400000) : impl_RowOk (strOfNums l) = some true := by
  unfold impl_RowOk
  rw [strOfNums_size, sel_no (by omega), row_loop l hl (by omega) (impl_RowOk_l2 (strOfNums l)) (fun i hi => by
    unfold impl_RowOk_l2
    rw [strOfNums_size, bt_str l (bitL_byte hl) i hi, sel_yes (by omega), req_p (by omega), req_p (by omega), sel_and, bnd_s, wk (by omega) (by omega)]; rfl) (by
    unfold impl_RowOk_l2; rw [strOfNums_size, sel_no (by omega)])]
  rfl
def val8 (l : List Int) : Int := l.foldl (fun x b => 2 * x + b - 48) 0
def chunks : Nat → List Int → List Int
  | 0, _ => []
  | n + 1, l => val8 (l.take 8) :: chunks n (l.drop 8)
theorem chunks_len : ∀ (n : Nat) (l : List Int), (chunks n l).length = n
  | 0, _ => rfl
  | n + 1, l => by rw [chunks, List.length_cons, chunks_len n]
def pack (l : List Int) : List Int := chunks (l.length / 8 + 1) (l ++ 49 :: List.replicate (8 * (l.length / 8 + 1) - l.length - 1) 48)
theorem val_acc (l : List Int) : ∀ x : Int, l.foldl (fun x b => 2 * x + b - 48) x = x * 2 ^ l.length + val8 l := by
  induction l with
  | nil => intro x; simp [val8]
  | cons b l ih =>
    intro x
    unfold val8
    rw [List.foldl_cons, List.foldl_cons, ih, ih (2 * 0 + b - 48), List.length_cons, Int.pow_succ]
    have e1 : (2 * x + b - 48) * 2 ^ l.length = 2 * (x * 2 ^ l.length) + (b - 48) * 2 ^ l.length := by
      rw [show 2 * x + b - 48 = 2 * x + (b - 48) by omega, Int.add_mul, Int.mul_assoc]
    have e2 : x * (2 ^ l.length * 2) = 2 * (x * 2 ^ l.length) := by rw [← Int.mul_assoc, Int.mul_comm]
    rw [e1, e2, show (2 : Int) * 0 + b - 48 = b - 48 by omega]
    omega
theorem val_app (a b : List Int) : val8 (a ++ b) = val8 a * 2 ^ b.length + val8 b := by
  show (a ++ b).foldl _ 0 = _
  rw [List.foldl_append]
  exact val_acc b (val8 a)
theorem val_rep (z : Nat) : val8 (List.replicate z 48) = 0 := by
  induction z with
  | zero => rfl
  | succ z ih => rw [List.replicate_succ', val_app, ih]; rfl
theorem val_range {l : List Int} (h : bitL l) : 0 ≤ val8 l ∧ val8 l < 2 ^ l.length := by
  induction l with
  | nil => simp [val8]
  | cons b l ih =>
    have h1 := ih (fun x hx => h x (by simp [hx]))
    have h2 := h b (by simp)
    rw [show b :: l = [b] ++ l from rfl, val_app, List.length_append, Int.pow_add, show val8 [b] = b - 48 by simp [val8]]
    have : (2 : Int) ^ [b].length = 2 := rfl
    rw [this]
    rcases h2 with rfl | rfl <;> omega
theorem or_bit : ∀ (x : Fin 256) (k : Fin 8), x.val % 2 ^ (8 - k.val) = 0 → (BitVec.ofNat 8 x.val ||| BitVec.ofNat 8 (128 / 2 ^ k.val)).toNat = x.val + 2 ^ (7 - k.val) := by decide +kernel
theorem or_u8 (x : Int) (k : Nat) (h0 : 0 ≤ x) (h1 : x ≤ 255) (hk : k < 8) (hx : x % 2 ^ (8 - k) = 0) : IntKind.wrap .u8 (BitVec.ofInt (IntKind.bits .u8) x ||| BitVec.ofInt (IntKind.bits .u8) ((128 : Int) / 2 ^ min k (IntKind.bits .u8))).toNat = x + 2 ^ (7 - k) := by
  obtain ⟨n, rfl⟩ : ∃ n : Nat, x = n := ⟨x.toNat, by omega⟩
  have hm : min k (IntKind.bits .u8) = k := by show min k 8 = k; omega
  have hn : n % 2 ^ (8 - k) = 0 := by exact_mod_cast hx
  have := or_bit ⟨n, by omega⟩ ⟨k, hk⟩ hn
  simp only at this
  rw [hm]
  have e1 : BitVec.ofInt 8 ((128 : Int) / 2 ^ k) = BitVec.ofNat 8 (128 / 2 ^ k) := by
    rw [show ((128 : Int) / 2 ^ k) = ((128 / 2 ^ k : Nat) : Int) by push_cast; rfl, BitVec.ofInt_natCast]
  have e2 : BitVec.ofInt 8 (n : Int) = BitVec.ofNat 8 n := BitVec.ofInt_natCast ..
  show IntKind.wrap .u8 ((BitVec.ofInt 8 (n : Int) ||| BitVec.ofInt 8 ((128 : Int) / 2 ^ k)).toNat : Int) = _
  rw [e1, e2, this, ← wrapK_eq]
  have hp : n + 2 ^ (7 - k) ≤ 255 := by
    have : n + 2 ^ (7 - k) < 256 := by rw [← this]; exact (BitVec.ofNat 8 n ||| BitVec.ofNat 8 (128 / 2 ^ k)).isLt
    omega
  rw [w8 (by omega) (by omega)]
  push_cast; rfl
theorem chunk_step : ∀ (m : Nat) (L : List Int), bitL L → L.length < 8 * m → chunks m (L ++ 49 :: List.replicate (8 * m - L.length - 1) 48) = (chunks m (L ++ List.replicate (8 * m - L.length) 48)).set (L.length / 8) ((chunks m (L ++ List.replicate (8 * m - L.length) 48)).getD (L.length / 8) 0 + 2 ^ (7 - L.length % 8)) ∧
    (chunks m (L ++ List.replicate (8 * m - L.length) 48)).getD (L.length / 8) 0 % 2 ^ (8 - L.length % 8) = 0 ∧ 0 ≤ (chunks m (L ++ List.replicate (8 * m - L.length) 48)).getD (L.length / 8) 0 ∧ (chunks m (L ++ List.replicate (8 * m - L.length) 48)).getD (L.length / 8) 0 ≤ 255
  | 0, L, _, h => by omega
  | m + 1, L, hb, h => by
    by_cases h8 : L.length < 8
    · have e0 : L.length / 8 = 0 := by omega
      have em : L.length % 8 = L.length := by omega
      have t1 : (L ++ List.replicate (8 * (m + 1) - L.length) 48).take 8 = L ++ List.replicate (8 - L.length) 48 := by
        rw [List.take_append, List.take_of_length_le (by omega), List.take_replicate]; congr 2; omega
      have d1 : (L ++ List.replicate (8 * (m + 1) - L.length) 48).drop 8 = List.replicate (8 * m) (48 : Int) := by
        rw [List.drop_append, List.drop_eq_nil_of_le (by omega), List.nil_append, List.drop_replicate]; congr 1; omega
      have t2 : (L ++ 49 :: List.replicate (8 * (m + 1) - L.length - 1) 48).take 8 = L ++ 49 :: List.replicate (8 - L.length - 1) 48 := by
        rw [List.take_append, List.take_of_length_le (by omega), show 8 - L.length = (8 - L.length - 1) + 1 by omega, List.take_succ_cons, List.take_replicate]; congr 3; omega
      have d2 : (L ++ 49 :: List.replicate (8 * (m + 1) - L.length - 1) 48).drop 8 = List.replicate (8 * m) (48 : Int) := by
        rw [List.drop_append, List.drop_eq_nil_of_le (by omega), List.nil_append, show 8 - L.length = (8 - L.length - 1) + 1 by omega, List.drop_succ_cons, List.drop_replicate]; congr 1; omega
      have r := val_range hb
      have v1 : val8 (L ++ List.replicate (8 - L.length) 48) = val8 L * 2 ^ (8 - L.length) := by rw [val_app, val_rep, List.length_replicate, Int.add_zero]
      have v2 : val8 (L ++ 49 :: List.replicate (8 - L.length - 1) 48) = val8 L * 2 ^ (8 - L.length) + 2 ^ (7 - L.length) := by
        rw [val_app, show (49 : Int) :: List.replicate (8 - L.length - 1) 48 = [49] ++ List.replicate (8 - L.length - 1) 48 from rfl, val_app, val_rep, Int.add_zero, List.length_append, List.length_replicate, show [(49 : Int)].length = 1 from rfl, show 1 + (8 - L.length - 1) = 8 - L.length by omega, show 8 - L.length - 1 = 7 - L.length by omega]
        show _ + val8 [49] * _ = _
        rw [show val8 [49] = 1 from rfl, Int.one_mul]
      rw [chunks, chunks, t1, d1, t2, d2, v1, v2, e0, em, List.getD_cons_zero, List.set_cons_zero]
      refine ⟨rfl, Int.mul_emod_left _ _, Int.mul_nonneg r.1 (Int.pow_nonneg (by decide)), ?_⟩
      have : (val8 L + 1) * 2 ^ (8 - L.length) ≤ 2 ^ L.length * 2 ^ (8 - L.length) := Int.mul_le_mul_of_nonneg_right (by omega) (Int.pow_nonneg (by decide))
      rw [← Int.pow_add, show L.length + (8 - L.length) = 8 by omega, Int.add_mul, Int.one_mul] at this
      have hp : (1 : Int) ≤ 2 ^ (8 - L.length) := Int.pow_pos (by decide)
      have : (2 : Int) ^ 8 = 256 := by decide
      omega
    · have hsp : L = L.take 8 ++ L.drop 8 := (List.take_append_drop 8 L).symm
      have hl8 : (L.take 8).length = 8 := by rw [List.length_take]; omega
      have hd : (L.drop 8).length = L.length - 8 := by rw [List.length_drop]
      have ih := chunk_step m (L.drop 8) (fun x hx => hb x (List.mem_of_mem_drop hx)) (by omega)
      rw [hd] at ih
      have tk : ∀ s : List Int, (L ++ s).take 8 = L.take 8 := fun s => by rw [List.take_append, show 8 - L.length = 0 by omega, List.take_zero, List.append_nil]
      have dr : ∀ s : List Int, (L ++ s).drop 8 = L.drop 8 ++ s := fun s => by rw [List.drop_append, show 8 - L.length = 0 by omega, List.drop_zero]
      rw [chunks, chunks, tk, tk, dr, dr, show L.length / 8 = (L.length - 8) / 8 + 1 by omega, List.getD_cons_succ, List.set_cons_succ, show L.length % 8 = (L.length - 8) % 8 by omega, show 8 * (m + 1) - L.length = 8 * m - (L.length - 8) by omega]
      exact ⟨by rw [ih.1], ih.2⟩
theorem chunk_zero (m : Nat) : chunks m (List.replicate (8 * m) 48) = List.replicate m 0 := by
  induction m with
  | zero => rfl
  | succ m ih =>
    rw [chunks, List.take_replicate, List.drop_replicate, show 8 * (m + 1) - 8 = 8 * m by omega, ih, val_rep, List.replicate_succ]
theorem chunk_same (m : Nat) (L : List Int) (h : L.length < 8 * m) : L ++ 48 :: List.replicate (8 * m - L.length - 1) 48 = L ++ List.replicate (8 * m - L.length) 48 := by
  congr 1
  rw [← List.replicate_succ]; congr 1; omega
theorem impl_RowBytes_eq (l : List Int) (hl : bitL l) (hn : l.length ≤ 400000) : impl_RowBytes (strOfNums l) = some (strOfNums (pack l), true) := by
  have hm' : maxLen = 9223372036854775807 := rfl
  unfold impl_RowBytes
  rw [impl_RowOk_eq l hl hn, bnd_s, sel_n, sel_t, req_p (by decide), strOfNums_size, tdiv_pos (by omega), show (l.length : Int) / 8 = ((l.length / 8 : Nat) : Int) by omega, wk (e := ((l.length / 8 : Nat) : Int)) (by omega) (by omega), wk (e := ((l.length / 8 : Nat) : Int) + 1) (by omega) (by omega), req_p (by omega),
    show (((l.length / 8 : Nat) : Int) + 1).toNat = l.length / 8 + 1 by omega]
  generalize hm : l.length / 8 + 1 = m
  have key : ∀ (r a : List Int), l = a ++ r → loop (impl_RowBytes_l2 (strOfNums l)) ((a.length : Int), chunks m (a ++ List.replicate (8 * m - a.length) 48)) = some (chunks m (l ++ List.replicate (8 * m - l.length) 48)) := by
    intro r
    induction r with
    | nil =>
      intro a ha
      rw [List.append_nil] at ha
      rw [← ha]
      refine ldone ?_
      unfold impl_RowBytes_l2
      simp only
      rw [strOfNums_size, sel_no (by omega)]
    | cons x r ih =>
      intro a ha
      have hlen : a.length < l.length := by rw [ha]; simp
      have hx : l.getD a.length 0 = x := by rw [ha]; exact getD_mid a x _ r
      have hb : x = 48 ∨ x = 49 := hl x (by rw [ha]; simp)
      have ha8 : a.length < 8 * m := by omega
      have hab : bitL a := fun y hy => hl y (by rw [ha]; simp [hy])
      obtain ⟨c1, c2, c3, c4⟩ := chunk_step m a hab ha8
      have hcl := chunks_len m (a ++ List.replicate (8 * m - a.length) 48)
      have hnext := ih (a ++ [x]) (by rw [ha]; simp)
      rw [List.length_append, List.length_singleton] at hnext
      refine lgo (y := (((a.length + 1 : Nat) : Int), chunks m (a ++ [x] ++ List.replicate (8 * m - (a.length + 1)) 48))) ?_ hnext
      unfold impl_RowBytes_l2
      simp only
      rw [strOfNums_size, sel_yes (by omega), bt_str l (bitL_byte hl) _ hlen, hx, wk (e := (a.length : Int) + 1) (by omega) (by omega), tdiv_pos (by omega), tmod_pos (by omega), show (a.length : Int) / 8 = ((a.length / 8 : Nat) : Int) by omega, show (a.length : Int) % 8 = ((a.length % 8 : Nat) : Int) by omega,
        wk (e := ((a.length / 8 : Nat) : Int)) (by omega) (by omega), Int.toNat_natCast, Int.toNat_natCast, req_p (by omega)]
      rw [List.append_assoc, List.singleton_append, Nat.sub_add_eq]
      rcases hb with rfl | rfl
      · rw [sel_neg (by decide), bnd_s, chunk_same m a ha8]; rfl
      · rw [sel_pos (by decide), req_p (by decide), req_p (by omega), req_p (by omega), req_p (by decide), req_p (by omega), req_p (by omega), req_p (by omega), bnd_s, or_u8 _ _ c3 c4 (by omega) c2, c1]; rfl
  have := key l [] rfl
  rw [List.nil_append, List.length_nil, Nat.sub_zero, chunk_zero] at this
  refine (bnd_e this).trans ?_
  have hl8 : l.length < 8 * m := by omega
  obtain ⟨c1, c2, c3, c4⟩ := chunk_step m l hl hl8
  have hcl := chunks_len m (l ++ List.replicate (8 * m - l.length) 48)
  rw [req_p (by decide), req_p (by omega), Int.toNat_natCast, req_p (by omega), req_p (by decide), tmod_pos (by omega), req_p (by omega), req_p (by omega), req_p (by omega), show ((l.length : Int) % 8).toNat = l.length % 8 by omega, or_u8 _ _ c3 c4 (by omega) c2, ← c1]
  unfold pack
  rw [hm]
theorem val8_loop (v : List Int) (i : Nat) (out : List Int) (c : List Int) (hc : (v.drop i).take 8 = c) (h8 : c.length = 8) (hb : bitL c) (hn : v.length ≤ 1000000) (hi : i + 8 ≤ v.length) : loop (spec_l02Bytes_l28 v ((i : Int), out)) (0, 0) = some (val8 c) := by
  have key : ∀ (r a : List Int), c = a ++ r → loop (spec_l02Bytes_l28 v ((i : Int), out)) (val8 a, (a.length : Int)) = some (val8 c) := by
    intro r
    induction r with
    | nil =>
      intro a ha
      rw [List.append_nil] at ha
      refine ldone ?_
      unfold spec_l02Bytes_l28
      simp only
      rw [sel_no (by rw [← ha]; omega), ha]
    | cons x r ih =>
      intro a ha
      have hlen : a.length < 8 := by rw [← h8, ha]; simp
      have hx : v.getD (i + a.length) 0 = x := by
        have h1 : c.getD a.length 0 = x := by rw [ha]; exact getD_mid a x _ r
        rw [← h1, ← hc]
        rw [List.getD_eq_getElem?_getD, List.getD_eq_getElem?_getD, List.getElem?_take_of_lt hlen, List.getElem?_drop]
      have hab : bitL a := fun y hy => hb y (by rw [ha]; simp [hy])
      have hr := val_range hab
      have hp : (2 : Int) ^ a.length ≤ 2 ^ 8 := by
        have := Nat.pow_le_pow_right (n := 2) (by omega) (show a.length ≤ 8 by omega)
        exact_mod_cast this
      have h256 : (2 : Int) ^ 8 = 256 := by decide
      have hxb : x = 48 ∨ x = 49 := hb x (by rw [ha]; simp)
      have hnext := ih (a ++ [x]) (by rw [ha]; simp)
      rw [List.length_append, List.length_singleton] at hnext
      refine lgo (y := (val8 (a ++ [x]), ((a.length + 1 : Nat) : Int))) ?_ hnext
      unfold spec_l02Bytes_l28
      simp only
      rw [sel_yes (by omega), wk (e := (i : Int) + a.length) (by omega) (by omega), req_p (by omega), req_p (by omega), show ((i : Int) + (a.length : Int)).toNat = i + a.length by omega, hx, wk (e := (a.length : Int) + 1) (by omega) (by omega), wk (e := x) (by omega) (by omega), wk (e := 2 * val8 a) (by omega) (by omega), wk (e := 2 * val8 a + x) (by omega) (by omega), wk (by omega) (by omega),
        val_app, show val8 [x] = x - 48 by simp [val8], show [x].length = 1 from rfl, Int.pow_one]
      congr 4
      omega
  have := key c [] rfl
  exact this
theorem chunk_loop (v : List Int) (hb : bitL v) (hn : v.length ≤ 1000000) : ∀ (m i : Nat) (out : List Int), i + 8 * m = v.length → out.length ≤ i → loop (spec_l02Bytes_l24 v) ((i : Int), out) = some (out ++ chunks m (v.drop i)) := by
  have hm' : maxLen = 9223372036854775807 := rfl
  intro m
  induction m with
  | zero =>
    intro i out hi _
    refine ldone ?_
    unfold spec_l02Bytes_l24
    simp only
    rw [sel_no (by omega)]; simp [chunks]
  | succ m ih =>
    intro i out hi ho
    have hlen : ((v.drop i).take 8).length = 8 := by rw [List.length_take, List.length_drop]; omega
    have hcb : bitL ((v.drop i).take 8) := fun x hx => hb x (List.mem_of_mem_drop (List.mem_of_mem_take hx))
    have hr := val_range hcb
    rw [hlen, show (2 : Int) ^ 8 = 256 by decide] at hr
    refine lgo (y := (((i + 8 : Nat) : Int), out ++ [val8 ((v.drop i).take 8)])) ?_ ?_
    · unfold spec_l02Bytes_l24
      simp only
      rw [sel_yes (by omega), val8_loop v i out _ rfl hlen hcb hn (by omega), bnd_s, w8 (by omega) (by omega), req_p (by simp only [List.length_singleton]; omega), wk (by omega) (by omega)]
      rfl
    · rw [ih (i + 8) _ (by omega) (by simp; omega), chunks, List.drop_drop, List.append_assoc]; rfl
theorem spec_l02Bytes_eq (l : List Int) (hl : bitL l) (hn : l.length ≤ 400000) : spec_l02Bytes (strOfNums l) = some (strOfNums (pack l)) := by
  have hm' : maxLen = 9223372036854775807 := rfl
  unfold spec_l02Bytes
  rw [strOfNums_size, nums_str l (bitL_byte hl), req_p (by omega), req_p (by simp only [List.length_singleton]; omega)]
  have key : ∀ (z : Nat) (s : List Int), s.length ≤ 500000 → z < 8 → (s.length + z) % 8 = 0 → loop spec_l02Bytes_l2 s = some (s ++ List.replicate z 48) := by
    intro z
    induction z with
    | zero =>
      intro s hs _ h8
      refine ldone ?_
      unfold spec_l02Bytes_l2
      rw [req_p (by decide), tmod_pos (by omega), sel_neg (by simp only [bne_eq_false_iff_eq]; omega)]; simp
    | succ z ih =>
      intro s hs hz h8
      refine lgo (y := s ++ [48]) ?_ ?_
      · unfold spec_l02Bytes_l2
        rw [req_p (by decide), tmod_pos (by omega), sel_pos (by simp only [bne_iff_ne, ne_eq]; omega), req_p (by simp only [List.length_singleton]; omega)]
      · rw [ih (s ++ [48]) (by simp; omega) (by omega) (by simp; omega), List.append_assoc, List.replicate_succ]; rfl
  have hz : (l ++ [49] ++ List.replicate (8 * (l.length / 8 + 1) - l.length - 1) 48 : List Int).length = 8 * (l.length / 8 + 1) := by simp; omega
  have hvb : bitL (l ++ [49] ++ List.replicate (8 * (l.length / 8 + 1) - l.length - 1) 48) := bitL_append (bitL_append hl (fun x hx => .inr (List.mem_singleton.1 hx))) (bitL_rep _)
  rw [key (8 * (l.length / 8 + 1) - l.length - 1) (l ++ [49]) (by simp; omega) (by omega) (by simp; omega), bnd_s]
  have := chunk_loop _ hvb (by omega) (l.length / 8 + 1) 0 [] (by rw [hz]; omega) (by simp)
  rw [List.nil_append, List.drop_zero] at this
  rw [show (0 : Int) = ((0 : Nat) : Int) from rfl, this, bnd_s]
  unfold pack
  rw [List.append_assoc, List.singleton_append]
theorem pack_len (l : List Int) : (pack l).length = l.length / 8 + 1 := chunks_len _ _
def isKind (k : Int) : Bool := k == 1 || (k == 5 || (k == 7 || k == 8))
theorem impl_isKind_eq (k : Int) : impl_isKind k = some (isKind k) := by
  unfold impl_isKind isKind
  simp only [sel_or, bnd_s]
theorem spec_l07Kind_eq (k : Int) : spec_l07Kind k = some (isKind k) := by
  unfold spec_l07Kind isKind
  simp only [sel_or, bnd_s]
theorem isKind_in {k : Int} (h : isKind k = true) : 1 ≤ k ∧ k ≤ 8 := by
  unfold isKind at h
  simp only [Bool.or_eq_true, beq_iff_eq] at h
  omega
theorem impl_UnitOf_eq (k : Int) (l : List Int) (hk : isKind k = true) (hl : bitL l) (hn : l.length ≤ 400000) : impl_UnitOf k (strOfNums l) = some (strOfNums (k :: pack l), true) := by
  have := isKind_in hk
  have hp := pack_len l
  unfold impl_UnitOf
  rw [impl_RowBytes_eq l hl hn, bnd_s, impl_isKind_eq, hk]
  simp only [sel_t, bnd_s, Bool.not_true, sel_f]
  rw [w8 (by omega) (by omega), req_p (by simp only [strOfNums_size, List.length_singleton]; omega), str_append]; rfl
theorem spec_UnitOf_eq (k : Int) (l : List Int) (hk : isKind k = true) (hl : bitL l) (hn : l.length ≤ 400000) : spec_UnitOf k (strOfNums l) = some (strOfNums (k :: pack l), true) := by
  have := isKind_in hk
  have hp := pack_len l
  unfold spec_UnitOf
  rw [spec_l07Kind_eq, bnd_s, hk, sel_t, spec_RowOk_eq l hl hn, bnd_s, bnd_s, Bool.not_true, sel_f, spec_l02Bytes_eq l hl hn, bnd_s, w8 (by omega) (by omega), req_p (by simp only [strOfNums_size, List.length_singleton]; omega), str_append]; rfl
def signL (b : Bool) : List Int := if b = true then [49] else [48]
theorem signL_bit (b : Bool) : bitL (signL b) := by unfold signL; split <;> (intro x hx; rw [List.mem_singleton.1 hx]; simp)
theorem signL_len (b : Bool) : (signL b).length = 1 := by unfold signL; split <;> rfl
theorem impl_sign_eq (b : Bool) : impl_sign b = some (strOfNums (signL b)) := by cases b <;> rfl
theorem spec_l05Flag_eq (b : Bool) : spec_l05Flag b = some (strOfNums (signL b)) := by cases b <;> rfl
def parL (p : Par) : List Int := fixL 6 p.Qp ++ signL p.Large ++ signL p.Exact ++ signL p.Confined
theorem parL_bit (p : Par) : bitL (parL p) := bitL_append (bitL_append (bitL_append (fixL_bit _ _) (signL_bit _)) (signL_bit _)) (signL_bit _)
theorem parL_len (p : Par) : (parL p).length = 9 := by unfold parL; simp only [List.length_append, fixL_len, signL_len]
theorem parOk_qp {p : Par} (h : parOk p = true) : 0 ≤ p.Qp ∧ p.Qp ≤ 40 := by
  unfold parOk at h; rw [Bool.and_eq_true, decide_eq_true_eq] at h; exact h.1
theorem impl_ParRow_eq (p : Par) (h : parOk p = true) : impl_ParRow p = some (strOfNums (parL p), true) := by
  have := parOk_qp h
  unfold impl_ParRow
  rw [impl_ParOk_eq, bnd_s, h, sel_neg (by rfl), show (6 : Int) = ((6 : Nat) : Int) from rfl, impl_signs_eq _ 6 (by omega) (by omega) (by omega), bnd_s, impl_sign_eq, bnd_s, req_p (by simp only [strOfNums_size, fixL_len, signL_len]; omega), impl_sign_eq, bnd_s, str_append, req_p (by simp only [strOfNums_size, List.length_append, fixL_len, signL_len]; omega), impl_sign_eq, bnd_s, str_append, req_p (by simp only [strOfNums_size, List.length_append, fixL_len, signL_len]; omega), str_append]
  rfl
theorem spec_l05Par_eq (p : Par) (h : parOk p = true) : spec_l05Par p = some (strOfNums (parL p)) := by
  have := parOk_qp h
  unfold spec_l05Par
  rw [show (6 : Int) = ((6 : Nat) : Int) from rfl, spec_l02Fix_eq _ 6 (by omega) (by omega) (by omega), bnd_s, spec_l05Flag_eq, bnd_s, req_p (by simp only [strOfNums_size, fixL_len, signL_len]; omega), spec_l05Flag_eq, bnd_s, str_append, req_p (by simp only [strOfNums_size, List.length_append, fixL_len, signL_len]; omega), spec_l05Flag_eq, bnd_s, str_append, req_p (by simp only [strOfNums_size, List.length_append, fixL_len, signL_len]; omega), str_append]
  rfl
def uesL : List Int → List Int
  | [] => []
  | x :: r => ueL x.toNat ++ uesL r
theorem uesL_bit : ∀ l : List Int, bitL (uesL l)
  | [] => bitL_nil
  | x :: r => bitL_append (ueL_bit _) (uesL_bit r)
theorem uesL_len : ∀ {l : List Int}, l.all okSide = true → (uesL l).length ≤ 39 * l.length
  | [], _ => by simp [uesL]
  | x :: r, h => by
    rw [List.all_cons, Bool.and_eq_true] at h
    have h1 := uesL_len h.2
    have h2 : 1 ≤ x ∧ x ≤ 8 := by simpa [okSide] using h.1
    have := ueL_len x.toNat (by omega)
    rw [uesL, List.length_append, List.length_cons]
    omega
def listL (l : List Int) : List Int := ueL l.length ++ uesL l
def seqL (s : Seq) : List Int := ueL s.Level.toNat ++ fixL 4 s.Bits ++ listL s.Cols ++ listL s.Rows
theorem listL_bit (l : List Int) : bitL (listL l) := bitL_append (ueL_bit _) (uesL_bit _)
theorem seqL_bit (s : Seq) : bitL (seqL s) := bitL_append (bitL_append (bitL_append (ueL_bit _) (fixL_bit _ _)) (listL_bit _)) (listL_bit _)
theorem listL_len {l : List Int} (h : okSides l = true) : (listL l).length ≤ 195 := by
  have h1 := okSides_len h
  unfold okSides at h
  rw [Bool.and_eq_true] at h
  have := uesL_len h.2
  have := ueL_len l.length (by omega)
  unfold listL; rw [List.length_append]; omega
theorem seqOk_level {s : Seq} (h : seqOk s = true) : 1 ≤ s.Level ∧ s.Level ≤ 3 := by
  unfold seqOk at h
  rw [Bool.and_eq_true, decide_eq_true_eq] at h
  have := h.1
  unfold levelSquares at this
  repeat' split at this
  all_goals omega
theorem seqL_len {s : Seq} (h : seqOk s = true) : (seqL s).length ≤ 433 := by
  obtain ⟨h1, h2, _⟩ := seqOk_sides h
  have h3 := seqOk_level h
  have := listL_len h1
  have := listL_len h2
  have := ueL_len s.Level.toNat (by omega)
  unfold seqL; simp only [List.length_append, fixL_len]; omega
theorem ue_list_loop (l : List Int) (ha : l.all okSide = true) (h4 : l.length ≤ 4) (f : (ByteArray × Int) → Option (Lp (ByteArray × Int) ByteArray))
    (h : ∀ (i : Nat) (s : List Int) (x : Int), i < l.length → s.length ≤ 1000 → l.getD i 0 = x → f (strOfNums s, (i : Int)) = some (.go (strOfNums (s ++ ueL x.toNat), ((i + 1 : Nat) : Int)))) (h0 : ∀ s, f (s, (l.length : Int)) = some (.done s)) (s : List Int) (hs : s.length ≤ 500) : loop f (strOfNums s, 0) = some (strOfNums (s ++ uesL l)) := by
  have key : ∀ (r a : List Int) (s : List Int), l = a ++ r → s.length + 39 * r.length ≤ 800 → loop f (strOfNums s, (a.length : Int)) = some (strOfNums (s ++ uesL r)) := by
    intro r
    induction r with
    | nil => intro a s ha _; rw [List.append_nil] at ha; rw [← ha, loop_done (h0 _), uesL, List.append_nil]
    | cons x r ih =>
      intro a s hl hsl
      have hlen : a.length < l.length := by rw [hl]; simp
      have hx : l.getD a.length 0 = x := by rw [hl]; exact getD_mid a x _ r
      have hxs : 1 ≤ x ∧ x ≤ 8 := by simpa [okSide] using List.all_eq_true.1 ha x (by rw [hl]; simp)
      have := ueL_len x.toNat (by omega)
      rw [List.length_cons] at hsl
      have hn := ih (a ++ [x]) (s ++ ueL x.toNat) (by rw [hl]; simp) (by rw [List.length_append]; omega)
      rw [List.length_append, List.length_singleton] at hn
      rw [loop_go (h a.length s x hlen (by omega) hx), hn, uesL, List.append_assoc]
  exact key l [] s rfl (by omega)
theorem spec_l05List_eq (l : List Int) (h : okSides l = true) : spec_l05List l = some (strOfNums (listL l)) := by
  have h1 := okSides_len h
  have ha : l.all okSide = true := by unfold okSides at h; rw [Bool.and_eq_true] at h; exact h.2
  have := ueL_len l.length (by omega)
  unfold spec_l05List
  rw [spec_l03Ue_eq _ (by omega), bnd_s, ue_list_loop l ha h1.2 (spec_l05List_l2 l) (by
    intro i s x hi hs hx
    have hxs : 1 ≤ x ∧ x ≤ 8 := by rw [getD_at l i hi] at hx; simpa [okSide, hx] using List.all_eq_true.1 ha _ (List.getElem_mem hi)
    have := ueL_len x.toNat (by omega)
    unfold spec_l05List_l2
    simp only [Int.toNat_natCast, hx]
    rw [sel_yes (by omega), req_p (by omega), show x = ((x.toNat : Nat) : Int) by omega, spec_l03Ue_eq _ (by omega), bnd_s, req_p (by simp only [strOfNums_size]; omega), wk (by omega) (by omega), str_append]
    rfl) (by intro s; unfold spec_l05List_l2; simp only; rw [sel_no (by omega)]) _ (by omega), bnd_s]
  rfl
theorem spec_l05Seq_eq (s : Seq) (h : seqOk s = true) : spec_l05Seq s = some (strOfNums (seqL s)) := by
  obtain ⟨h1, h2, h3⟩ := seqOk_sides h
  have h4 := seqOk_level h
  have := listL_len h1
  have := listL_len h2
  have := ueL_len s.Level.toNat (by omega)
  unfold spec_l05Seq
  rw [show s.Level = ((s.Level.toNat : Nat) : Int) by omega, spec_l03Ue_eq _ (by omega), bnd_s, show (4 : Int) = ((4 : Nat) : Int) from rfl, spec_l02Fix_eq _ 4 (by omega) (by omega) (by omega), bnd_s, req_p (by simp only [strOfNums_size, fixL_len]; omega), spec_l05List_eq _ h1, bnd_s, str_append, req_p (by simp only [strOfNums_size, List.length_append, fixL_len]; omega), spec_l05List_eq _ h2, bnd_s, str_append, req_p (by simp only [strOfNums_size, List.length_append, fixL_len]; omega), str_append]
  rfl
theorem impl_SeqRow_eq (s : Seq) (h : seqOk s = true) (hc : s.Cols.length ≤ maxLen) (hr : s.Rows.length ≤ maxLen) : impl_SeqRow s = some (strOfNums (seqL s), true) := by
  obtain ⟨h1, h2, h3⟩ := seqOk_sides h
  have h4 := seqOk_level h
  have g1 := listL_len h1
  have g2 := listL_len h2
  have g3 := ueL_len s.Level.toNat (by omega)
  unfold impl_SeqRow
  rw [impl_SeqOk_eq s hc hr, bnd_s, h, sel_neg (by rfl), show s.Level = ((s.Level.toNat : Nat) : Int) by omega, impl_ue_eq _ (by omega), bnd_s, show (4 : Int) = ((4 : Nat) : Int) from rfl, impl_signs_eq _ 4 (by omega) (by omega) (by omega), bnd_s, req_p (by simp only [strOfNums_size, fixL_len]; omega), str_append]
  have step : ∀ (n : Nat) (l t : List Int), n = 0 ∨ n = 1 → ([s.Cols, s.Rows]).getD n dLInti64 = l → okSides l = true → t.length ≤ 300 → impl_SeqRow_l12 s (strOfNums t, (n : Int)) = some (.go (strOfNums (t ++ listL l), ((n + 1 : Nat) : Int))) := by
    intro n l t hn hl hok ht
    have l4 := okSides_len hok
    have ha : l.all okSide = true := by unfold okSides at hok; rw [Bool.and_eq_true] at hok; exact hok.2
    have := ueL_len l.length (by omega)
    unfold impl_SeqRow_l12
    simp only [Int.toNat_natCast, hl, List.length_cons, List.length_nil]
    rw [sel_yes (by omega), req_p (by omega), req_p (by omega), impl_ue_eq _ (by omega), bnd_s, req_p (by simp only [strOfNums_size]; omega), str_append, ue_list_loop l ha l4.2 (impl_SeqRow_l14 s (strOfNums t, (n : Int))) (by
      intro i u x hi hs hx
      have hxs : 1 ≤ x ∧ x ≤ 8 := by rw [getD_at l i hi] at hx; simpa [okSide, hx] using List.all_eq_true.1 ha _ (List.getElem_mem hi)
      have := ueL_len x.toNat (by omega)
      unfold impl_SeqRow_l14
      simp only [Int.toNat_natCast, hl, hx]
      rw [sel_yes (by omega), req_p (by omega), show x = ((x.toNat : Nat) : Int) by omega, impl_ue_eq _ (by omega), bnd_s, req_p (by simp only [strOfNums_size]; omega), wk (by omega) (by omega), str_append]
      rfl) (by intro u; unfold impl_SeqRow_l14; simp only [Int.toNat_natCast, hl]; rw [sel_no (by omega)]) _ (by rw [List.length_append]; omega), bnd_s, wk (by omega) (by omega), List.append_assoc]
    rfl
  have s0 := step 0 s.Cols (ueL s.Level.toNat ++ fixL 4 s.Bits) (.inl rfl) rfl h1 (by rw [List.length_append, fixL_len]; omega)
  have s1 := step 1 s.Rows (ueL s.Level.toNat ++ fixL 4 s.Bits ++ listL s.Cols) (.inr rfl) rfl h2 (by simp only [List.length_append, fixL_len]; omega)
  have s2 : ∀ t, impl_SeqRow_l12 s (t, ((2 : Nat) : Int)) = some (.done t) := by intro t; unfold impl_SeqRow_l12; simp only; rw [sel_no (by simp)]
  have e : loop (impl_SeqRow_l12 s) (strOfNums (ueL s.Level.toNat ++ fixL 4 s.Bits), ((0 : Nat) : Int)) = some (strOfNums (seqL s)) := by
    rw [loop_go s0, loop_go s1, loop_done (s2 _)]; rfl
  exact bnd_e e
theorem laws_eqStringS_self (l : List ByteArray) (hl : l.length ≤ 9223372036854775806) : laws_eqStringS l l = some true := by
  unfold laws_eqStringS
  rw [sel_neg (by simp), self_loop l.length (f := laws_eqStringS_l2 l l) (by
    intro i hi
    unfold laws_eqStringS_l2
    rw [sel_yes (by omega), req_p (by omega), req_p (by omega), sel_neg (by simp), wk (by omega) (by omega)]
    rfl) (by unfold laws_eqStringS_l2; rw [sel_no (by omega)])]
  rfl
noncomputable def markT (k : Int) : List ByteArray → List ByteArray
  | [] => []
  | _ :: r => mT k :: markT (k + 1) r
theorem markT_len : ∀ (l : List ByteArray) (k : Int), (markT k l).length = l.length
  | [], _ => rfl
  | _ :: r, k => by rw [markT, List.length_cons, List.length_cons, markT_len r]
theorem laws_markStringS_eq (l : List ByteArray) (k : Int) (h0 : 0 < k) (h1 : k ≤ 1000000000) (hl : l.length ≤ 100000000) : laws_markStringS l k = some (k + l.length, markT k l) := by
  unfold laws_markStringS
  have key : ∀ (r a : List ByteArray) (j : Int), 0 < j → j + r.length ≤ 2000000000 → a.length + r.length ≤ 100000000 → loop laws_markStringS_l2 (j, (a.length : Int), a ++ r) = some (j + r.length, a ++ markT j r) := by
    intro r
    induction r with
    | nil =>
      intro a j hj1 hj2 hl
      refine ldone ?_
      unfold laws_markStringS_l2
      simp only [List.append_nil]
      rw [sel_no (by omega)]
      simp [markT]
    | cons p r ih =>
      intro a j hj1 hj2 hl
      simp only [List.length_cons] at hj2 hl ⊢
      have hcl : ∀ x : ByteArray, (a ++ x :: r).length = a.length + (r.length + 1) := fun x => by simp
      refine lgo (y := (j + 1, ((a ++ [mT j]).length : Int), (a ++ [mT j]) ++ r)) ?_ ?_
      · unfold laws_markStringS_l2
        simp only [Int.toNat_natCast, set_mid, hcl]
        rw [sel_yes (by omega), laws_markText_eq _ hj1 (by omega), bnd_s, req_p (by omega), req_p (by omega), wk (e := j + 1) (by omega) (by omega), wk (by omega) (by omega)]
        simp
      · rw [ih _ (j + 1) (by omega) (by omega) (by simp; omega)]
        simp only [markT, List.append_assoc, List.singleton_append]
        congr 2
        omega
  have := key l [] k h0 (by omega) (by simp; omega)
  simp only [List.length_nil, List.nil_append] at this
  exact bnd_e this
theorem laws_heldStringS_eq (l : List ByteArray) (k : Int) (h0 : 0 < k) (h1 : k ≤ 1000000000) (hl : l.length ≤ 100000000) : laws_heldStringS (markT k l) k = some (k + l.length) := by
  unfold laws_heldStringS
  have key : ∀ (r a : List ByteArray) (j : Int), 0 < j → j + r.length ≤ 2000000000 → a.length + r.length ≤ 100000000 → loop (laws_heldStringS_l2 (a ++ markT j r)) (j, (a.length : Int)) = some (.out (j + r.length)) := by
    intro r
    induction r with
    | nil =>
      intro a j hj1 hj2 hl
      refine ldone ?_
      unfold laws_heldStringS_l2
      simp only [markT, List.append_nil]
      rw [sel_no (by omega)]
      simp
    | cons p r ih =>
      intro a j hj1 hj2 hl
      simp only [List.length_cons] at hj2 hl ⊢
      have hcl : ∀ (x : ByteArray) (r : List ByteArray), (a ++ x :: r).length = a.length + (r.length + 1) := fun x r => by simp
      refine lgo (y := (j + 1, ((a ++ [mT j]).length : Int))) ?_ ?_
      · unfold laws_heldStringS_l2
        simp only [markT, Int.toNat_natCast, getD_mid, hcl, markT_len]
        rw [sel_yes (by omega), req_p (by omega), laws_markText_eq _ hj1 (by omega), bnd_s, sel_neg (by simp), wk (e := j + 1) (by omega) (by omega), wk (by omega) (by omega)]
        simp
      · have := ih (a ++ [mT j]) (j + 1) (by omega) (by omega) (by simp; omega)
        simp only [markT]
        rw [List.append_assoc, List.singleton_append] at this
        rw [this]
        congr 2
        omega
  have := key l [] k h0 (by omega) (by simp; omega)
  simp only [List.length_nil, List.nil_append] at this
  exact bnd_e this
theorem laws_toIntS_eq (l : List Int) (hl : l.length ≤ 1048576) : laws_toIntS l = some l := by
  unfold laws_toIntS
  rw [req_p (by omega), Int.toNat_natCast]
  have := fill_loop l (fun p : Int => p) 0 (0 : Int) (f := laws_toIntS_l2 l) (by
    intro i o hi ho
    unfold laws_toIntS_l2
    simp only
    rw [sel_yes (by omega), req_p (by omega), req_p (by omega), req_p (by omega), wk (by omega) (by omega)]
    rfl) (by
    intro o; unfold laws_toIntS_l2; simp only; rw [sel_no (by omega)])
  rw [this, bnd_s, List.map_id']
theorem laws_toSeq_eq (s : Seq) (h1 : s.Cols.length ≤ 1048576) (h2 : s.Rows.length ≤ 1048576) : laws_toSeq s = some s := by
  unfold laws_toSeq
  rw [laws_toIntS_eq _ h1, bnd_s, laws_toIntS_eq _ h2, bnd_s]
theorem laws_szIntS_eq (l : List Int) (m : Int) (hl : l.length ≤ maxLen) (h0 : 0 ≤ m) (h1 : m ≤ 1048576) : laws_szIntS l m = some (if m < l.length then -1 else m - l.length) := by
  have hm : maxLen = 9223372036854775807 := rfl
  unfold laws_szIntS
  rw [wk (by omega) (by omega), sel_d]
  by_cases h : m < l.length
  · rw [if_pos h, if_pos (by omega)]
  · rw [if_neg h, if_neg (by omega)]
theorem laws_szSeq_ev (s : Seq) (m : Int) (h1 : s.Cols.length ≤ maxLen) (h2 : s.Rows.length ≤ maxLen) (h0 : 0 ≤ m) (hm : m ≤ 1048576) : ∃ t, laws_szSeq s m = some t ∧ t ≤ m ∧ -1 ≤ t ∧ (0 ≤ t → s.Cols.length ≤ 1048576 ∧ s.Rows.length ≤ 1048576) := by
  unfold laws_szSeq
  rw [laws_szIntS_eq _ m h1 h0 hm, bnd_s]
  by_cases e1 : m < s.Cols.length
  · rw [if_pos e1, sel_yes (by omega)]; exact ⟨_, rfl, by omega, by omega, by omega⟩
  · rw [if_neg e1, sel_no (by omega), laws_szIntS_eq _ _ h2 (by omega) (by omega), bnd_s]
    by_cases e2 : m - s.Cols.length < s.Rows.length
    · rw [if_pos e2, sel_yes (by omega)]; exact ⟨_, rfl, by omega, by omega, by omega⟩
    · rw [if_neg e2, sel_no (by omega)]; exact ⟨_, rfl, by omega, by omega, fun _ => by omega⟩
theorem laws_szPic_eq (p : Pic) (m : Int) (hl : p.Dots.size ≤ maxLen) (h0 : 0 ≤ m) (h1 : m ≤ 1048576) : laws_szPic p m = some (if m < p.Dots.size then -1 else m - p.Dots.size) := by
  have hm : maxLen = 9223372036854775807 := rfl
  unfold laws_szPic
  rw [wk (by omega) (by omega), sel_d]
  by_cases h : m < p.Dots.size
  · rw [if_pos h, if_pos (by omega)]
  · rw [if_neg h, if_neg (by omega)]
theorem laws_szSource_ev (s : Source) (h : okSource s) : ∃ t, laws_szSource s 1048576 = some t ∧ (0 ≤ t → s.Seq.Cols.length ≤ 1048576 ∧ s.Seq.Rows.length ≤ 1048576) := by
  unfold okSource okSeq okPic at h
  obtain ⟨t, e, a, b, c⟩ := laws_szSeq_ev s.Seq 1048576 h.1.2.2.1.1 h.1.2.2.2.1 (by omega) (by omega)
  unfold laws_szSource
  rw [e, bnd_s]
  by_cases ht : t < 0
  · rw [sel_yes ht]; exact ⟨_, rfl, by omega⟩
  · rw [sel_no ht, laws_szPic_eq s.Ref t h.2.2.2.2.2.2.2.2.2.2 (by omega) (by omega), bnd_s]
    split
    · rw [sel_yes (by omega)]; exact ⟨_, rfl, by omega⟩
    · rw [sel_no (by omega)]; exact ⟨_, rfl, fun _ => c (by omega)⟩
theorem laws_toSource_eq (s : Source) (h1 : s.Seq.Cols.length ≤ 1048576) (h2 : s.Seq.Rows.length ≤ 1048576) : laws_toSource s = some s := by
  unfold laws_toSource
  rw [laws_toSeq_eq _ h1 h2, bnd_s]; rfl
theorem laws_markSource_eq (s : Source) (k : Int) (h0 : 0 < k) (h1 : k ≤ 100000000) (hc : s.Seq.Cols.length ≤ 100000000) (hr : s.Seq.Rows.length ≤ 100000000) : ∃ s', laws_markSource s k = some (k + s.Seq.Cols.length + s.Seq.Rows.length, s') := by
  unfold laws_markSource
  rw [laws_markSeq_eq _ _ h0 h1 hc hr, bnd_s]
  exact ⟨_, rfl⟩
def sourceSets (s : Source) : List ByteArray := if sourceOk s = true then [strOfNums (7 :: pack (seqL s.Seq)), strOfNums (8 :: pack (parL s.Par))] else []
theorem sourceOk_parts {s : Source} (h : sourceOk s = true) : seqOk s.Seq = true ∧ parOk s.Par = true := by
  unfold sourceOk at h
  simp only [Bool.and_eq_true, decide_eq_true_eq] at h
  exact ⟨tiles_one h.1.1.1.1.1, h.1.1.1.1.2⟩
theorem spec_SourceSets_eq (s : Source) (hb : (Lit.int .i64 s.Seq.Bits).wf = true) : spec_SourceSets s = some (sourceSets s) := by
  unfold spec_SourceSets sourceSets
  rw [spec_SourceOk_eq s hb, bnd_s, sel_n]
  cases h : sourceOk s with
  | false => rfl
  | true =>
    obtain ⟨h1, h2⟩ := sourceOk_parts h
    have := seqL_len h1
    rw [sel_t, spec_l05Seq_eq _ h1, bnd_s, spec_UnitOf_eq 7 _ rfl (seqL_bit _) (by omega), bnd_s, spec_l05Par_eq _ h2, bnd_s, spec_UnitOf_eq 8 _ rfl (parL_bit _) (by rw [parL_len]; omega), bnd_s]
    rfl
theorem impl_SourceSets_eq (s : Source) (hc : s.Seq.Cols.length ≤ maxLen) (hr : s.Seq.Rows.length ≤ maxLen) : impl_SourceSets s = some (sourceSets s) := by
  unfold impl_SourceSets sourceSets
  rw [impl_SourceOk_eq s hc hr, bnd_s, sel_n]
  cases h : sourceOk s with
  | false => rfl
  | true =>
    obtain ⟨h1, h2⟩ := sourceOk_parts h
    have := seqL_len h1
    rw [sel_t, impl_SeqRow_eq _ h1 hc hr, bnd_s, impl_ParRow_eq _ h2, bnd_s, impl_UnitOf_eq 7 _ rfl (seqL_bit _) (by omega), bnd_s, impl_UnitOf_eq 8 _ rfl (parL_bit _) (by rw [parL_len]; omega), bnd_s]
    rfl
theorem FnExactSourceSets {p0 : Source} (h0 : okSource p0) : laws_FnExactSourceSets p0 = some true := by
  have hm : maxLen = 9223372036854775807 := rfl
  unfold laws_FnExactSourceSets
  obtain ⟨t, e, a⟩ := laws_szSource_ev p0 h0
  rw [e, bnd_s]
  by_cases ht : t < 0
  · rw [sel_yes ht]
  rw [sel_no ht]
  obtain ⟨l1, l2⟩ := a (by omega)
  have hb : (Lit.int .i64 p0.Seq.Bits).wf = true := by unfold okSource okSeq at h0; exact h0.1.2.1
  have hl : (sourceSets p0).length ≤ 2 := by unfold sourceSets; split <;> simp
  obtain ⟨s', hs'⟩ := laws_markSource_eq p0 1 (by omega) (by omega) (by omega) (by omega)
  simp only [laws_toSource_eq p0 l1 l2, bnd_s, spec_SourceSets_eq p0 hb, impl_SourceSets_eq p0 (by omega) (by omega), laws_eqStringS_self (sourceSets p0) (by omega), Bool.not_true, sel_f, laws_eqSource_self p0 (by omega) (by omega), hs', laws_markStringS_eq (sourceSets p0) 1 (by omega) (by omega) (by omega), laws_heldStringS_eq (sourceSets p0) 1 (by omega) (by omega) (by omega), bne_self_eq_false]
  rw [sel_no (by omega), bnd_s, sel_f, sel_no (by omega), sel_no (by omega)]
end Go.Proofs.Ytplmeeookgefnaa.A.Pure
