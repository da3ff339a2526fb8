/- The pure statement of the law FnExactSourceNew: over numbers, texts and lists alone, what the law computes is true. Conditions: the sizes of what a machine holds. -/
import Derived.Test.YtplmeeookgefnaaDFnExactSourceNew
namespace Go.Proofs.Ytplmeeookgefnaa.A.Pure
open Go Go.Proofs Go.Proofs.YtplmeeookgefnaaAL Go.RowKit
set_option linter.unusedVariables false
set_option linter.unusedSimpArgs false
set_option maxHeartbeats 1000000
theorem bnd_s {α β : Type} (a : α) (f : α → Option β) : bnd (some a) f = f a := rfl
theorem sel_t {β : Type} (x y : β) : sel true x y = x := rfl
theorem sel_f {β : Type} (x y : β) : sel false x y = y := rfl
theorem sel_n {β : Type} (b : Bool) (x y : β) : sel (!b) x y = sel b y x := by cases b <;> rfl
theorem sel_and (b x : Bool) : sel b (some x) (some false) = some (b && x) := by cases b <;> rfl
theorem sel_or (b x : Bool) : sel b (some true) (some x) = some (b || x) := by cases b <;> rfl
theorem sel_nor (b x : Bool) : sel b (some x) (some true) = some (!b || x) := by cases b <;> rfl
theorem sel_ite {β : Type} (b : Bool) (x y : β) : sel b x y = if b = true then x else y := by cases b <;> rfl
theorem sel_pos {β : Type} {b : Bool} {x y : β} (h : b = true) : sel b x y = x := by subst h; rfl
theorem sel_neg {β : Type} {b : Bool} {x y : β} (h : b = false) : sel b x y = y := by subst h; rfl
theorem sel_yes {β : Type} {p : Prop} [Decidable p] {x y : β} (h : p) : sel (decide p) x y = x := by simp [h, sel]
theorem sel_no {β : Type} {p : Prop} [Decidable p] {x y : β} (h : ¬ p) : sel (decide p) x y = y := by simp [h, sel]
theorem req_p {β : Type} {c : Prop} [Decidable c] {k : Option β} (h : c) : req c k = k := if_pos h
theorem wk {e : Int} (h1 : -9223372036854775808 ≤ e) (h2 : e ≤ 9223372036854775807) : wrapK .i64 e = e := by
  show wrap64 e = e
  unfold wrap64; omega
theorem wf64 {n : Int} (h : (Lit.int .i64 n).wf = true) : -9223372036854775808 ≤ n ∧ n ≤ 9223372036854775807 := by
  simp [Lit.wf, IntKind.min, IntKind.max, IntKind.signed, IntKind.bits] at h
  omega
theorem down_to {P : Nat → Prop} (n : Nat) (h0 : P n) (hs : ∀ i, i < n → P (i + 1) → P i) : ∀ i, i ≤ n → P i := by
  intro i hi
  obtain ⟨k, rfl⟩ : ∃ k, n = i + k := ⟨n - i, by omega⟩
  clear hi
  induction k generalizing i with
  | zero => exact h0
  | succ k ih =>
    refine hs i (by omega) ?_
    exact ih (i + 1) (by rw [show i + 1 + k = i + (k + 1) by omega]; exact h0) (fun j hj => hs j (by omega))
theorem lgo {V O : Type} {f : V → Option (Lp V O)} {x y : V} {r : Option O} (h : f x = some (.go y)) (k : loop f y = r) : loop f x = r := by rw [loop_go h]; exact k
theorem ldone {V O : Type} {f : V → Option (Lp V O)} {x : V} {o : O} (h : f x = some (.done o)) : loop f x = some o := loop_done h
theorem impl_within_eq (a b c : Int) : impl_within a b c = some (decide (b ≤ a ∧ a ≤ c)) := by
  unfold impl_within
  by_cases h : b ≤ a <;> simp [bnd, sel, h]
theorem spec_l01In_eq (a b c : Int) : spec_l01In a b c = some (decide (b ≤ a ∧ a ≤ c)) := by
  unfold spec_l01In
  by_cases h : b ≤ a <;> simp [bnd, sel, h]
theorem set_mid {α : Type} (a : List α) (x y : α) (b : List α) : (a ++ x :: b).set a.length y = a ++ y :: b := by
  induction a with
  | nil => rfl
  | cons z a ih => simp only [List.cons_append, List.length_cons, List.set_cons_succ, ih]
theorem getD_mid {α : Type} (a : List α) (x d : α) (b : List α) : (a ++ x :: b).getD a.length d = x := by
  induction a with
  | nil => rfl
  | cons z a ih => simp
theorem self_loop {f : Int → Option (Lp Int (Ou Unit Bool))} (n : Nat) (h : ∀ i : Nat, i < n → f i = some (.go ((i + 1 : Nat) : Int))) (h0 : f n = some (.done (.out ()))) : loop f 0 = some (.out ()) :=
  down_to (P := fun i => loop f (i : Int) = some (.out ())) n (loop_done h0) (fun i hi ih => by rw [loop_go (h i hi)]; exact ih) 0 (by omega)
def rateOk (r : Rate) : Bool := decide (0 ≤ r.Qp ∧ r.Qp ≤ 40 ∧ 1 ≤ r.Target ∧ r.Target ≤ 100000 ∧ -8 * r.Target ≤ r.Debt ∧ r.Debt ≤ 8 * r.Target)
theorem impl_RateOk_eq (r : Rate) : impl_RateOk r = some (rateOk r) := by
  unfold impl_RateOk rateOk
  simp only [impl_within_eq, bnd_s]
  by_cases h1 : 0 ≤ r.Qp ∧ r.Qp ≤ 40
  · rw [sel_yes h1]
    by_cases h2 : 1 ≤ r.Target ∧ r.Target ≤ 100000
    · rw [sel_yes h2, wk (by omega) (by omega), wk (by omega) (by omega), bnd_s]
      simp only [h1.1, h1.2, h2.1, h2.2, true_and]
    · rw [sel_no h2, bnd_s]; congr 1; symm; rw [decide_eq_false_iff_not]; exact fun h => h2 ⟨h.2.2.1, h.2.2.2.1⟩
  · rw [sel_no h1, bnd_s]; congr 1; symm; rw [decide_eq_false_iff_not]; exact fun h => h1 ⟨h.1, h.2.1⟩
def okSide (n : Int) : Bool := decide (1 ≤ n ∧ n ≤ 8)
def isum : List Int → Int
  | [] => 0
  | x :: r => x + isum r
def okSides (l : List Int) : Bool := decide (1 ≤ l.length ∧ l.length ≤ 4) && l.all okSide
def sumIf (l : List Int) : Int := if okSides l = true then isum l else 0
theorem isum_bounds : ∀ {l : List Int}, l.all okSide = true → (l.length : Int) ≤ isum l ∧ isum l ≤ 8 * l.length
  | [], _ => by simp [isum]
  | x :: r, h => by
    rw [List.all_cons, Bool.and_eq_true] at h
    have := isum_bounds h.2
    have hx := h.1
    unfold okSide at hx
    simp only [decide_eq_true_eq] at hx
    rw [isum, List.length_cons]
    omega
theorem sumIf_bounds (l : List Int) : 0 ≤ sumIf l ∧ sumIf l ≤ 32 := by
  unfold sumIf
  split
  · rename_i h
    unfold okSides at h
    rw [Bool.and_eq_true, decide_eq_true_eq] at h
    have := isum_bounds h.2
    omega
  · omega
theorem spec_l05Sum_eq (l : List Int) : spec_l05Sum l = some (sumIf l) := by
  unfold spec_l05Sum sumIf okSides
  rw [sel_or, bnd_s]
  by_cases h : 1 ≤ l.length ∧ l.length ≤ 4
  · rw [sel_neg (by simp; omega), decide_eq_true h, Bool.true_and]
    have key : ∀ (r a : List Int) (t : Int), l = a ++ r → 0 ≤ t → t ≤ 8 * a.length → loop (spec_l05Sum_l2 l) (t, (a.length : Int)) = some (if r.all okSide = true then .out (t + isum r) else .ret 0) := by
      intro r
      induction r with
      | nil =>
        intro a t ha h0 h1
        rw [List.append_nil] at ha
        refine ldone ?_
        unfold spec_l05Sum_l2
        simp only
        rw [sel_no (by rw [ha]; omega)]
        simp [isum]
      | cons x r ih =>
        intro a t ha h0 h1
        have hlen : a.length < l.length := by rw [ha]; simp
        have hx : l.getD a.length 0 = x := by rw [ha]; exact getD_mid a x _ r
        have hstep : spec_l05Sum_l2 l (t, (a.length : Int)) = sel (okSide x) (some (.go (wrapK .i64 (t + x), ((a.length + 1 : Nat) : Int)))) (some (.done (.ret 0))) := by
          unfold spec_l05Sum_l2
          simp only [Int.toNat_natCast, hx]
          rw [sel_yes (by omega), req_p (by omega), spec_l01In_eq, bnd_s, sel_n, req_p (by omega), wk (e := (a.length : Int) + 1) (by omega) (by omega)]
          rfl
        cases e : okSide x with
        | true =>
          rw [e] at hstep
          have hx2 := e
          unfold okSide at hx2
          simp only [decide_eq_true_eq] at hx2
          rw [wk (by omega) (by omega), sel_t] at hstep
          have := ih (a ++ [x]) (t + x) (by rw [ha]; simp) (by omega) (by simp; omega)
          rw [List.length_append, List.length_singleton] at this
          rw [loop_go hstep, this, List.all_cons, e, Bool.true_and, isum, Int.add_assoc]
        | false =>
          rw [e, sel_f] at hstep
          rw [loop_done hstep, List.all_cons, e, Bool.false_and]; rfl
    have := key l [] 0 rfl (by omega) (by simp)
    simp only [List.length_nil, Int.zero_add] at this
    rw [show (((0 : Int), (0 : Int))) = (0, ((0 : Nat) : Int)) from rfl, this, bnd_s]
    cases l.all okSide <;> rfl
  · rw [sel_pos (by simp; omega), decide_eq_false h, Bool.false_and]; rfl
theorem impl_sumOf_eq (l : List Int) (h : okSides l = true) : impl_sumOf l = some (isum l) := by
  unfold okSides at h
  rw [Bool.and_eq_true, decide_eq_true_eq] at h
  unfold impl_sumOf
  have key : ∀ (r a : List Int) (t : Int), l = a ++ r → 0 ≤ t → t ≤ 8 * a.length → loop (impl_sumOf_l2 l) (t, (a.length : Int)) = some (t + isum r) := by
    intro r
    induction r with
    | nil =>
      intro a t ha h0 h1
      rw [List.append_nil] at ha
      refine ldone ?_
      unfold impl_sumOf_l2
      simp only
      rw [sel_no (by rw [ha]; omega)]
      simp [isum]
    | cons x r ih =>
      intro a t ha h0 h1
      have hlen : a.length < l.length := by rw [ha]; simp
      have hx : l.getD a.length 0 = x := by rw [ha]; exact getD_mid a x _ r
      have e : okSide x = true := List.all_eq_true.1 h.2 x (by rw [ha]; simp)
      unfold okSide at e
      simp only [decide_eq_true_eq] at e
      have := ih (a ++ [x]) (t + x) (by rw [ha]; simp) (by omega) (by simp; omega)
      rw [List.length_append, List.length_singleton] at this
      rw [isum, ← Int.add_assoc, ← this]
      refine loop_go ?_
      unfold impl_sumOf_l2
      simp only [Int.toNat_natCast, hx]
      rw [sel_yes (by omega), req_p (by omega), wk (e := (a.length : Int) + 1) (by omega) (by omega), wk (by omega) (by omega)]
      rfl
  have := key l [] 0 rfl (by omega) (by simp)
  simp only [List.length_nil, Int.zero_add] at this
  rw [show (((0 : Int), (0 : Int))) = (0, ((0 : Nat) : Int)) from rfl, this, bnd_s]
def squares (s : Seq) : Int := sumIf s.Cols * sumIf s.Rows
theorem squares_bounds (s : Seq) : 0 ≤ squares s ∧ squares s ≤ 1024 := by
  unfold squares
  have h1 := sumIf_bounds s.Cols
  have h2 := sumIf_bounds s.Rows
  refine ⟨Int.mul_nonneg h1.1 h2.1, ?_⟩
  calc sumIf s.Cols * sumIf s.Rows ≤ 32 * sumIf s.Rows := Int.mul_le_mul_of_nonneg_right h1.2 h2.1
    _ ≤ 1024 := by omega
theorem spec_SquaresOf_eq (s : Seq) : spec_SquaresOf s = some (squares s) := by
  have h := squares_bounds s
  unfold spec_SquaresOf
  rw [spec_l05Sum_eq, bnd_s, spec_l05Sum_eq, bnd_s, wk (by show _ ≤ squares s; omega) (by show squares s ≤ _; omega)]
  rfl
theorem squares_in (s : Seq) (n : Nat) (hn : n = 0 ∨ n = 1) (l : List Int) (hl : ([s.Cols, s.Rows]).getD n dLInti64 = l) (h4 : l.length ≤ 4) : loop (impl_SquaresOf_l14 s (n : Int)) 0 = some (if l.all okSide = true then .out () else .ret 0) := by
  have key : ∀ (r a : List Int), l = a ++ r → loop (impl_SquaresOf_l14 s (n : Int)) (a.length : Int) = some (if r.all okSide = true then .out () else .ret 0) := by
    intro r
    induction r with
    | nil =>
      intro a ha
      rw [List.append_nil] at ha
      refine ldone ?_
      unfold impl_SquaresOf_l14
      rw [Int.toNat_natCast, hl, sel_no (by rw [ha]; omega)]; rfl
    | cons x r ih =>
      intro a ha
      have hlen : a.length < l.length := by rw [ha]; simp
      have hx : l.getD a.length 0 = x := by rw [ha]; exact getD_mid a x _ r
      have hstep : impl_SquaresOf_l14 s (n : Int) (a.length : Int) = sel (okSide x) (some (.go ((a.length + 1 : Nat) : Int))) (some (.done (.ret 0))) := by
        unfold impl_SquaresOf_l14
        simp only [Int.toNat_natCast, hl, hx]
        rw [sel_yes (by omega), req_p (by omega), impl_within_eq, bnd_s, sel_n, wk (by omega) (by omega)]
        rfl
      cases e : okSide x with
      | true =>
        rw [e, sel_t] at hstep
        have := ih (a ++ [x]) (by rw [ha]; simp)
        rw [List.length_append, List.length_singleton] at this
        rw [loop_go hstep, this, List.all_cons, e, Bool.true_and]
      | false => rw [e, sel_f] at hstep; rw [loop_done hstep, List.all_cons, e, Bool.false_and]; rfl
  exact key l [] rfl
theorem impl_SquaresOf_eq (s : Seq) (h1 : s.Cols.length ≤ maxLen) (h2 : s.Rows.length ≤ maxLen) : impl_SquaresOf s = some (squares s) := by
  have h := squares_bounds s
  unfold impl_SquaresOf
  have step : ∀ (n : Nat) (l : List Int), n = 0 ∨ n = 1 → ([s.Cols, s.Rows]).getD n dLInti64 = l → impl_SquaresOf_l12 s (n : Int) = sel (okSides l) (some (.go ((n + 1 : Nat) : Int))) (some (.done (.ret 0))) := by
    intro n l hn hl
    unfold impl_SquaresOf_l12 okSides
    rw [Int.toNat_natCast, hl]
    simp only [List.length_cons, List.length_nil]
    rw [sel_yes (by omega), req_p (by omega), req_p (by omega), impl_within_eq, bnd_s, sel_n]
    by_cases h4 : 1 ≤ l.length ∧ l.length ≤ 4
    · rw [sel_yes (by omega), squares_in s n hn l hl h4.2, bnd_s, decide_eq_true h4, Bool.true_and, wk (by omega) (by omega)]
      cases l.all okSide <;> rfl
    · rw [sel_no (by omega), decide_eq_false h4, Bool.false_and, sel_f]
  have s0 := step 0 s.Cols (.inl rfl) rfl
  have s1 := step 1 s.Rows (.inr rfl) rfl
  have s2 : impl_SquaresOf_l12 s ((2 : Nat) : Int) = some (.done (.out ())) := by unfold impl_SquaresOf_l12; rw [sel_no (by simp)]
  rw [show (0 : Int) = ((0 : Nat) : Int) from rfl]
  unfold squares at h ⊢
  unfold sumIf at h ⊢
  cases e0 : okSides s.Cols with
  | false => rw [e0, sel_f] at s0; rw [loop_done s0, bnd_s]; simp
  | true =>
    rw [e0, sel_t] at s0
    rw [loop_go s0]
    cases e1 : okSides s.Rows with
    | false => rw [e1, sel_f] at s1; rw [loop_done s1, bnd_s]; simp
    | true =>
      rw [e1, sel_t] at s1
      rw [loop_go s1, loop_done s2, bnd_s]
      simp only
      rw [e0, e1, if_pos rfl, if_pos rfl] at h
      rw [impl_sumOf_eq _ e0, bnd_s, impl_sumOf_eq _ e1, bnd_s, wk (by omega) (by omega)]
      simp
def levelSquares (n : Int) : Int := if n = 1 then 16 else if n = 2 then 64 else if n = 3 then 256 else 0
theorem spec_LevelSquares_eq (n : Int) : spec_LevelSquares n = some (levelSquares n) := by
  unfold spec_LevelSquares levelSquares
  simp only [sel_ite, beq_iff_eq]
  repeat' split
  all_goals rfl
theorem impl_LevelSquares_eq (n : Int) : impl_LevelSquares n = some (levelSquares n) := by
  unfold impl_LevelSquares levelSquares
  rw [impl_within_eq, bnd_s, sel_n]
  by_cases h : 1 ≤ n ∧ n ≤ 3
  · rw [sel_yes h, wk (by omega) (by omega), req_p (by simp only [List.length_cons, List.length_nil]; omega), req_p (by simp only [List.length_cons, List.length_nil]; omega)]
    rcases (show n = 1 ∨ n = 2 ∨ n = 3 by omega) with rfl | rfl | rfl <;> rfl
  · rw [sel_no h, if_neg (by omega), if_neg (by omega), if_neg (by omega)]
def seqOk (s : Seq) : Bool := decide (1 ≤ squares s ∧ squares s ≤ levelSquares s.Level) && decide (3 ≤ s.Bits ∧ s.Bits ≤ 8)
theorem spec_SeqOk_eq (s : Seq) : spec_SeqOk s = some (seqOk s) := by
  unfold spec_SeqOk seqOk
  simp only [spec_SquaresOf_eq, spec_LevelSquares_eq, spec_l01In_eq, bnd_s, sel_and]
theorem impl_SeqOk_eq (s : Seq) (h1 : s.Cols.length ≤ maxLen) (h2 : s.Rows.length ≤ maxLen) : impl_SeqOk s = some (seqOk s) := by
  unfold impl_SeqOk seqOk
  simp only [impl_SquaresOf_eq s h1 h2, impl_LevelSquares_eq, impl_within_eq, bnd_s, sel_and]
theorem seqOk_sides {s : Seq} (h : seqOk s = true) : okSides s.Cols = true ∧ okSides s.Rows = true ∧ 3 ≤ s.Bits ∧ s.Bits ≤ 8 := by
  unfold seqOk at h
  rw [Bool.and_eq_true, decide_eq_true_eq, decide_eq_true_eq] at h
  obtain ⟨⟨h1, _⟩, h3⟩ := h
  unfold squares sumIf at h1
  refine ⟨?_, ?_, h3⟩
  · refine Classical.byContradiction fun e => ?_
    rw [if_neg e, Int.zero_mul] at h1; omega
  · refine Classical.byContradiction fun e => ?_
    rw [if_neg e, Int.mul_zero] at h1; omega
def levelFor (c r : List Int) : Int := if seqOk ⟨1, 3, c, r⟩ = true then 1 else if seqOk ⟨2, 3, c, r⟩ = true then 2 else if seqOk ⟨3, 3, c, r⟩ = true then 3 else 0
theorem level_loop (c r : List Int) (f : Int → Option (Lp Int (Ou Unit Int))) (h : ∀ n : Int, n ≤ 3 → 1 ≤ n → f n = sel (seqOk ⟨n, 3, c, r⟩) (some (.done (.ret n))) (some (.go (n + 1)))) (h4 : f 4 = some (.done (.out ()))) :
    (bnd (loop f 1) fun o => match o with | .out _ => some 0 | .ret r => some r) = some (levelFor c r) := by
  have h1 := h 1 (by omega) (by omega)
  have h2 := h 2 (by omega) (by omega)
  have h3 := h 3 (by omega) (by omega)
  unfold levelFor
  cases e1 : seqOk ⟨1, 3, c, r⟩ with
  | true => rw [e1, sel_t] at h1; rw [loop_done h1]; rfl
  | false =>
    rw [e1, sel_f] at h1
    rw [loop_go h1]
    cases e2 : seqOk ⟨2, 3, c, r⟩ with
    | true => rw [e2, sel_t] at h2; rw [show (1 : Int) + 1 = 2 from rfl, loop_done h2]; rfl
    | false =>
      rw [e2, sel_f] at h2
      rw [show (1 : Int) + 1 = 2 from rfl, loop_go h2]
      cases e3 : seqOk ⟨3, 3, c, r⟩ with
      | true => rw [e3, sel_t] at h3; rw [show (2 : Int) + 1 = 3 from rfl, loop_done h3]; rfl
      | false =>
        rw [e3, sel_f] at h3
        rw [show (2 : Int) + 1 = 3 from rfl, loop_go h3, show (3 : Int) + 1 = 4 from rfl, loop_done h4]; rfl
theorem spec_LevelFor_eq (c r : List Int) : spec_LevelFor c r = some (levelFor c r) := by
  unfold spec_LevelFor
  refine level_loop c r _ (fun n h1 h2 => ?_) ?_
  · unfold spec_LevelFor_l2
    rw [sel_yes h1, spec_SeqOk_eq, bnd_s, wk (by omega) (by omega)]
  · unfold spec_LevelFor_l2; rw [sel_no (by omega)]
theorem impl_LevelFor_eq (c r : List Int) (h1 : c.length ≤ maxLen) (h2 : r.length ≤ maxLen) : impl_LevelFor c r = some (levelFor c r) := by
  unfold impl_LevelFor
  refine level_loop c r _ (fun n h3 h4 => ?_) ?_
  · unfold impl_LevelFor_l2
    rw [sel_yes h3, impl_SeqOk_eq ⟨n, 3, c, r⟩ h1 h2, bnd_s, wk (by omega) (by omega)]
  · unfold impl_LevelFor_l2; rw [sel_no (by omega)]
def tilesOf (s : Seq) : Int := if seqOk s = true then (s.Cols.length : Int) * s.Rows.length else 0
theorem okSides_len {l : List Int} (h : okSides l = true) : 1 ≤ l.length ∧ l.length ≤ 4 := by
  unfold okSides at h; rw [Bool.and_eq_true, decide_eq_true_eq] at h; exact h.1
theorem tiles_small {s : Seq} (h : seqOk s = true) : 1 ≤ (s.Cols.length : Int) * s.Rows.length ∧ (s.Cols.length : Int) * s.Rows.length ≤ 16 := by
  obtain ⟨h1, h2, _⟩ := seqOk_sides h
  have a := okSides_len h1
  have b := okSides_len h2
  have e : ∀ x y : Nat, 1 ≤ x → x ≤ 4 → 1 ≤ y → y ≤ 4 → 1 ≤ x * y ∧ x * y ≤ 16 := by
    intro x y h1 h2 h3 h4
    rcases (show x = 1 ∨ x = 2 ∨ x = 3 ∨ x = 4 by omega) with rfl | rfl | rfl | rfl <;> omega
  have := e _ _ a.1 a.2 b.1 b.2
  rw [← Int.natCast_mul]; omega
theorem spec_TilesOf_eq (s : Seq) : spec_TilesOf s = some (tilesOf s) := by
  unfold spec_TilesOf tilesOf
  rw [spec_SeqOk_eq, bnd_s, sel_n]
  cases h : seqOk s with
  | false => rfl
  | true => have := tiles_small h; rw [sel_t, wk (by omega) (by omega), if_pos rfl]
theorem impl_TilesOf_eq (s : Seq) (h1 : s.Cols.length ≤ maxLen) (h2 : s.Rows.length ≤ maxLen) : impl_TilesOf s = some (tilesOf s) := by
  unfold impl_TilesOf tilesOf
  rw [impl_SeqOk_eq s h1 h2, bnd_s, sel_n]
  cases h : seqOk s with
  | false => rfl
  | true => have := tiles_small h; rw [sel_t, wk (by omega) (by omega), if_pos rfl]
def sizeOfS (s : Seq) : Int × Int := if seqOk s = true then (8 * isum s.Cols, 8 * isum s.Rows) else (0, 0)
theorem isum_ok {l : List Int} (h : okSides l = true) : 1 ≤ isum l ∧ isum l ≤ 32 := by
  unfold okSides at h
  rw [Bool.and_eq_true, decide_eq_true_eq] at h
  have := isum_bounds h.2
  omega
theorem spec_SizeOf_eq (s : Seq) : spec_SizeOf s = some (sizeOfS s) := by
  unfold spec_SizeOf sizeOfS
  rw [spec_SeqOk_eq, bnd_s, sel_n]
  cases h : seqOk s with
  | false => rfl
  | true =>
    obtain ⟨h1, h2, _⟩ := seqOk_sides h
    have a := isum_ok h1
    have b := isum_ok h2
    rw [sel_t, spec_l05Sum_eq, bnd_s, spec_l05Sum_eq, bnd_s, if_pos rfl]
    unfold sumIf
    rw [if_pos h1, if_pos h2, wk (by omega) (by omega), wk (by omega) (by omega)]
theorem impl_SizeOf_eq (s : Seq) (h1 : s.Cols.length ≤ maxLen) (h2 : s.Rows.length ≤ maxLen) : impl_SizeOf s = some (sizeOfS s) := by
  unfold impl_SizeOf sizeOfS
  rw [impl_SeqOk_eq s h1 h2, bnd_s, sel_n]
  cases h : seqOk s with
  | false => rfl
  | true =>
    obtain ⟨h1, h2, _⟩ := seqOk_sides h
    have a := isum_ok h1
    have b := isum_ok h2
    rw [sel_t, impl_sumOf_eq _ h1, bnd_s, impl_sumOf_eq _ h2, bnd_s, if_pos rfl, wk (by omega) (by omega), wk (by omega) (by omega)]
def parOk (p : Par) : Bool := decide (0 ≤ p.Qp ∧ p.Qp ≤ 40) && !(p.Large && p.Exact)
theorem spec_ParOk_eq (p : Par) : spec_ParOk p = some (parOk p) := by
  unfold spec_ParOk parOk
  rw [spec_l01In_eq, bnd_s, sel_nor, sel_and, bnd_s]
  cases p.Large <;> cases p.Exact <;> rfl
theorem impl_ParOk_eq (p : Par) : impl_ParOk p = some (parOk p) := by
  unfold impl_ParOk parOk
  rw [impl_within_eq, bnd_s, sel_nor, sel_and, bnd_s]
  cases p.Large <;> cases p.Exact <;> rfl
def picOk (p : Pic) : Bool := decide (1 ≤ p.Wide ∧ p.Wide ≤ 256) && (decide (1 ≤ p.High ∧ p.High ≤ 256) && ((p.Dots.size : Int) == p.Wide * p.High))
theorem area_small {w h : Int} (h1 : 1 ≤ w ∧ w ≤ 256) (h2 : 1 ≤ h ∧ h ≤ 256) : 1 ≤ w * h ∧ w * h ≤ 65536 := by
  have a : w * 1 ≤ w * h := Int.mul_le_mul_of_nonneg_left h2.1 (by omega)
  have b : w * h ≤ 256 * h := Int.mul_le_mul_of_nonneg_right h1.2 (by omega)
  omega
theorem spec_PicOk_eq (p : Pic) : spec_PicOk p = some (picOk p) := by
  unfold spec_PicOk picOk
  simp only [spec_l01In_eq, bnd_s, sel_and]
  by_cases h1 : 1 ≤ p.Wide ∧ p.Wide ≤ 256
  · by_cases h2 : 1 ≤ p.High ∧ p.High ≤ 256
    · have := area_small h1 h2
      rw [wk (by omega) (by omega)]
    · rw [decide_eq_false h2, Bool.false_and, Bool.false_and]
  · rw [decide_eq_false h1, Bool.false_and, Bool.false_and]
theorem impl_PicOk_eq (p : Pic) : impl_PicOk p = some (picOk p) := by
  unfold impl_PicOk picOk
  simp only [impl_within_eq, bnd_s, sel_and]
  by_cases h1 : 1 ≤ p.Wide ∧ p.Wide ≤ 256
  · by_cases h2 : 1 ≤ p.High ∧ p.High ≤ 256
    · have := area_small h1 h2
      rw [wk (by omega) (by omega)]
    · rw [decide_eq_false h2, Bool.false_and, Bool.false_and]
  · rw [decide_eq_false h1, Bool.false_and, Bool.false_and]
def fitsS (p : Pic) (s : Seq) : Bool := picOk p && ((p.Wide == (sizeOfS s).1) && (p.High == (sizeOfS s).2))
theorem impl_fits_eq (p : Pic) (s : Seq) (h1 : s.Cols.length ≤ maxLen) (h2 : s.Rows.length ≤ maxLen) : impl_fits p s = some (fitsS p s) := by
  unfold impl_fits fitsS
  simp only [impl_SizeOf_eq s h1 h2, impl_PicOk_eq, bnd_s, sel_and]
theorem spec_RateOk_eq (r : Rate) : spec_RateOk r = some (rateOk r) := by
  unfold spec_RateOk rateOk
  simp only [spec_l01In_eq, bnd_s]
  by_cases h1 : 0 ≤ r.Qp ∧ r.Qp ≤ 40
  · rw [sel_yes h1]
    by_cases h2 : 1 ≤ r.Target ∧ r.Target ≤ 100000
    · rw [sel_yes h2, wk (by omega) (by omega), wk (by omega) (by omega), bnd_s]
      simp only [h1.1, h1.2, h2.1, h2.2, true_and]
    · rw [sel_no h2, bnd_s]; congr 1; symm; rw [decide_eq_false_iff_not]; exact fun h => h2 ⟨h.2.2.1, h.2.2.2.1⟩
  · rw [sel_no h1, bnd_s]; congr 1; symm; rw [decide_eq_false_iff_not]; exact fun h => h1 ⟨h.1, h.2.1⟩
def sourceOk (s : Source) : Bool :=
  decide (tilesOf s.Seq = 1) && parOk s.Par && rateOk s.Rate && decide (0 ≤ s.Frame ∧ s.Frame < 2 ^ s.Seq.Bits.toNat) && decide ((1 ≤ s.Every ∧ s.Every ≤ 1000) ∧ (0 ≤ s.Since ∧ s.Since ≤ 1000) ∧ (0 ≤ s.Reach ∧ s.Reach ≤ 4)) &&
  (if s.Has = true then fitsS s.Ref s.Seq else decide (s.Ref.Wide = 0 ∧ s.Ref.High = 0 ∧ s.Ref.Dots.size = 0))
theorem bits_pow {b : Int} (h : 3 ≤ b ∧ b ≤ 8) : (2 : Int) ^ min b.toNat (IntKind.bits .i64) = 2 ^ b.toNat ∧ (8 : Int) ≤ 2 ^ b.toNat ∧ (2 : Int) ^ b.toNat ≤ 256 := by
  rcases (show b = 3 ∨ b = 4 ∨ b = 5 ∨ b = 6 ∨ b = 7 ∨ b = 8 by omega) with rfl | rfl | rfl | rfl | rfl | rfl <;> decide
theorem tiles_one {s : Seq} (h : tilesOf s = 1) : seqOk s = true := by
  unfold tilesOf at h
  refine Classical.byContradiction fun e => ?_
  rw [if_neg e] at h; cases h
theorem size_zero (b : ByteArray) : (b.toList == (⟨#[]⟩ : ByteArray).toList) = decide (b.size = 0) := by
  rw [ByteArray.toList_eq, ByteArray.toList_eq, Bool.eq_iff_iff]
  obtain ⟨⟨l⟩⟩ := b
  show (l == []) = true ↔ decide (l.length = 0) = true
  cases l <;> simp
theorem spec_SourceOk_eq (s : Source) (hb : (Lit.int .i64 s.Seq.Bits).wf = true) : spec_SourceOk s = some (sourceOk s) := by
  have hb' := wf64 hb
  unfold spec_SourceOk sourceOk
  rw [spec_TilesOf_eq, bnd_s]
  by_cases h1 : tilesOf s.Seq = 1
  · have hs := (seqOk_sides (tiles_one h1)).2.2
    have hp := bits_pow hs
    have e64 : wrapK .u64 s.Seq.Bits = s.Seq.Bits := by
      show IntKind.wrap .u64 s.Seq.Bits = _
      simp [IntKind.wrap, IntKind.signed, IntKind.bits]; omega
    rw [sel_neg (by simp [h1]), e64, req_p (by omega), hp.1, wk (by omega) (by omega), spec_ParOk_eq, bnd_s, spec_RateOk_eq, bnd_s, sel_or, sel_nor, sel_nor, bnd_s]
    simp only [spec_l01In_eq, bnd_s, sel_nor]
    rw [decide_eq_true h1, Bool.true_and]
    cases hpar : parOk s.Par with
    | false => rfl
    | true =>
      cases hr : rateOk s.Rate with
      | false => rfl
      | true =>
        by_cases hf : 0 ≤ s.Frame ∧ s.Frame < 2 ^ s.Seq.Bits.toNat
        · rw [sel_neg (by simp; omega), decide_eq_true hf]
          by_cases h3 : (1 ≤ s.Every ∧ s.Every ≤ 1000) ∧ (0 ≤ s.Since ∧ s.Since ≤ 1000) ∧ (0 ≤ s.Reach ∧ s.Reach ≤ 4)
          · rw [sel_neg (by simp; omega), decide_eq_true h3, spec_SizeOf_eq, bnd_s]
            cases s.Has with
            | true =>
              rw [sel_t]
              simp only [spec_PicOk_eq, bnd_s, sel_and, fitsS]
              rfl
            | false =>
              rw [sel_f]
              simp only [bnd_s, sel_and]
              congr 1
              rw [Bool.eq_iff_iff]; simp
          · rw [sel_pos (by simp; omega), decide_eq_false h3]; simp
        · rw [sel_pos (by simp; omega), decide_eq_false hf]; simp
  · rw [sel_pos (by simpa using h1), bnd_s, sel_t, decide_eq_false h1]; simp
theorem impl_SourceOk_eq (s : Source) (h1 : s.Seq.Cols.length ≤ maxLen) (h2 : s.Seq.Rows.length ≤ maxLen) : impl_SourceOk s = some (sourceOk s) := by
  unfold impl_SourceOk sourceOk
  rw [impl_TilesOf_eq _ h1 h2, bnd_s]
  by_cases ht : tilesOf s.Seq = 1
  · have hs := (seqOk_sides (tiles_one ht)).2.2
    have hp := bits_pow hs
    rw [sel_neg (by simp [ht]), req_p (by omega), hp.1, wk (e := 1 * 2 ^ s.Seq.Bits.toNat) (by omega) (by omega), wk (by omega) (by omega), impl_ParOk_eq, bnd_s, impl_RateOk_eq, bnd_s]
    simp only [impl_within_eq, bnd_s, sel_nor]
    rw [decide_eq_true ht, Bool.true_and]
    cases hpar : parOk s.Par with
    | false => rfl
    | true =>
      cases hr : rateOk s.Rate with
      | false => rfl
      | true =>
        by_cases hf : 0 ≤ s.Frame ∧ s.Frame < 2 ^ s.Seq.Bits.toNat
        · rw [decide_eq_true hf]
          by_cases h3 : (1 ≤ s.Every ∧ s.Every ≤ 1000) ∧ (0 ≤ s.Since ∧ s.Since ≤ 1000) ∧ (0 ≤ s.Reach ∧ s.Reach ≤ 4)
          · rw [sel_neg (by simp; omega), decide_eq_true h3, impl_fits_eq _ _ h1 h2, bnd_s, size_zero]
            cases s.Has with
            | true => rfl
            | false =>
              rw [sel_f]
              congr 1
              rw [Bool.eq_iff_iff]; simp
          · rw [sel_pos (by simp; omega), decide_eq_false h3]; simp
        · rw [sel_pos (by simp; omega), decide_eq_false hf]; simp
  · rw [sel_pos (by simpa using ht), bnd_s, sel_t, decide_eq_false ht]; simp
theorem laws_eqIntS_self (l : List Int) (hl : l.length ≤ 9223372036854775806) : laws_eqIntS l l = some true := by
  unfold laws_eqIntS
  rw [sel_neg (by simp), self_loop l.length (f := laws_eqIntS_l2 l l) (by
    intro i hi
    unfold laws_eqIntS_l2
    rw [sel_yes (by omega), req_p (by omega), req_p (by omega), sel_neg (by simp), wk (by omega) (by omega)]
    rfl) (by unfold laws_eqIntS_l2; rw [sel_no (by omega)])]
  rfl
def markI (k : Int) : List Int → List Int
  | [] => []
  | _ :: r => k :: markI (k + 1) r
theorem markI_len : ∀ (l : List Int) (k : Int), (markI k l).length = l.length
  | [], _ => rfl
  | _ :: r, k => by rw [markI, List.length_cons, List.length_cons, markI_len r]
theorem laws_markIntS_eq (l : List Int) (k : Int) (h0 : 0 < k) (h1 : k ≤ 1000000000) (hl : l.length ≤ 100000000) : laws_markIntS l k = some (k + l.length, markI k l) := by
  unfold laws_markIntS
  have key : ∀ (r a : List Int) (j : Int), 0 < j → j + r.length ≤ 2000000000 → a.length + r.length ≤ 100000000 → loop laws_markIntS_l2 (j, (a.length : Int), a ++ r) = some (j + r.length, a ++ markI j r) := by
    intro r
    induction r with
    | nil =>
      intro a j hj1 hj2 hl
      refine ldone ?_
      unfold laws_markIntS_l2
      simp only [List.append_nil]
      rw [sel_no (by omega)]
      simp [markI]
    | cons p r ih =>
      intro a j hj1 hj2 hl
      simp only [List.length_cons] at hj2 hl ⊢
      have hcl : ∀ x : Int, (a ++ x :: r).length = a.length + (r.length + 1) := fun x => by simp
      refine lgo (y := (j + 1, ((a ++ [j]).length : Int), (a ++ [j]) ++ r)) ?_ ?_
      · unfold laws_markIntS_l2
        simp only [Int.toNat_natCast, set_mid, hcl]
        rw [sel_yes (by omega), req_p (by omega), req_p (by omega), wk (e := j + 1) (by omega) (by omega), wk (by omega) (by omega)]
        simp
      · rw [ih _ (j + 1) (by omega) (by omega) (by simp; omega)]
        simp only [markI, List.append_assoc, List.singleton_append]
        congr 2
        omega
  have := key l [] k h0 (by omega) (by simp; omega)
  simp only [List.length_nil, List.nil_append] at this
  rw [show ((k, 0, l) : Int × Int × List Int) = (k, ((0 : Nat) : Int), l) from rfl, this]
  rfl
theorem laws_heldIntS_eq (l : List Int) (k : Int) (h0 : 0 < k) (h1 : k ≤ 1000000000) (hl : l.length ≤ 100000000) : laws_heldIntS (markI k l) k = some (k + l.length) := by
  unfold laws_heldIntS
  have key : ∀ (r a : List Int) (j : Int), 0 < j → j + r.length ≤ 2000000000 → a.length + r.length ≤ 100000000 → loop (laws_heldIntS_l2 (a ++ markI j r)) (j, (a.length : Int)) = some (.out (j + r.length)) := by
    intro r
    induction r with
    | nil =>
      intro a j hj1 hj2 hl
      refine ldone ?_
      unfold laws_heldIntS_l2
      simp only [markI, List.append_nil]
      rw [sel_no (by omega)]
      simp
    | cons p r ih =>
      intro a j hj1 hj2 hl
      simp only [List.length_cons] at hj2 hl ⊢
      have hcl : ∀ (x : Int) (r : List Int), (a ++ x :: r).length = a.length + (r.length + 1) := fun x r => by simp
      refine lgo (y := (j + 1, ((a ++ [j]).length : Int))) ?_ ?_
      · unfold laws_heldIntS_l2
        simp only [markI, Int.toNat_natCast, getD_mid, hcl, markI_len]
        rw [sel_yes (by omega), req_p (by omega), sel_neg (by simp), wk (e := j + 1) (by omega) (by omega), wk (by omega) (by omega)]
        simp
      · have := ih (a ++ [j]) (j + 1) (by omega) (by omega) (by simp; omega)
        simp only [markI]
        rw [List.append_assoc, List.singleton_append] at this
        rw [this]
        congr 2
        omega
  have := key l [] k h0 (by omega) (by simp; omega)
  simp only [List.length_nil, List.nil_append] at this
  rw [show ((k, 0) : Int × Int) = (k, ((0 : Nat) : Int)) from rfl, this]
  rfl
theorem laws_eqSeq_self (s : Seq) (h1 : s.Cols.length ≤ 9223372036854775806) (h2 : s.Rows.length ≤ 9223372036854775806) : laws_eqSeq s s = some true := by
  unfold laws_eqSeq
  simp only [laws_eqIntS_self _ h1, laws_eqIntS_self _ h2, bnd_s, bne_self_eq_false, sel_f, Bool.not_true]
theorem laws_markSeq_eq (s : Seq) (k : Int) (h0 : 0 < k) (h1 : k ≤ 100000000) (hc : s.Cols.length ≤ 100000000) (hr : s.Rows.length ≤ 100000000) : laws_markSeq s k = some (k + s.Cols.length + s.Rows.length, (⟨s.Level, s.Bits, markI k s.Cols, markI (k + s.Cols.length) s.Rows⟩ : Seq)) := by
  unfold laws_markSeq
  rw [laws_markIntS_eq _ _ h0 (by omega) hc, bnd_s, laws_markIntS_eq _ _ (by omega) (by omega) hr, bnd_s]
theorem laws_heldSeq_eq (s : Seq) (c r : List Int) (k : Int) (h0 : 0 < k) (h1 : k ≤ 100000000) (hc : c.length ≤ 100000000) (hr : r.length ≤ 100000000) (ec : s.Cols = markI k c) (er : s.Rows = markI (k + c.length) r) : laws_heldSeq s k = some (k + c.length + r.length) := by
  unfold laws_heldSeq
  rw [ec, laws_heldIntS_eq _ _ h0 (by omega) hc, bnd_s, sel_no (by omega), er, laws_heldIntS_eq _ _ (by omega) (by omega) hr, bnd_s, sel_no (by omega)]
theorem laws_eqPar_self (p : Par) : laws_eqPar p p = some true := by
  unfold laws_eqPar
  simp only [bne_self_eq_false, sel_f, beq_self_eq_true, Bool.not_true]
theorem laws_eqRate_self (p : Rate) : laws_eqRate p p = some true := by
  unfold laws_eqRate
  simp only [bne_self_eq_false, sel_f]
theorem laws_eqPic_self (p : Pic) : laws_eqPic p p = some true := by
  unfold laws_eqPic
  simp only [bne_self_eq_false, sel_f, beq_self_eq_true, Bool.not_true]
theorem laws_eqSource_self (s : Source) (h1 : s.Seq.Cols.length ≤ 9223372036854775806) (h2 : s.Seq.Rows.length ≤ 9223372036854775806) : laws_eqSource s s = some true := by
  unfold laws_eqSource
  simp only [laws_eqSeq_self _ h1 h2, laws_eqPar_self, laws_eqRate_self, laws_eqPic_self, bnd_s, bne_self_eq_false, sel_f, beq_self_eq_true, Bool.not_true]
def emptySource : Source := ⟨⟨0, 0, [], []⟩, ⟨0, false, false, false⟩, ⟨0, 0, 0⟩, 0, 0, 0, 0, false, ⟨0, 0, ⟨#[]⟩⟩⟩
def madeSource (c r b : Int) (p : Par) (t : Rate) (e n : Int) : Source := ⟨⟨levelFor [c] [r], b, [c], [r]⟩, p, t, 0, 0, e, n, false, ⟨0, 0, ⟨#[]⟩⟩⟩
def sourceNew (c r b : Int) (p : Par) (t : Rate) (e n : Int) : Source × Bool := if sourceOk (madeSource c r b p t e n) = true then (madeSource c r b p t e n, true) else (emptySource, false)
theorem FnExactSourceNew {p0 p1 p2 : Int} {p3 : Par} {p4 : Rate} {p5 p6 : Int} (h0 : (Lit.int .i64 p0).wf = true) (h1 : (Lit.int .i64 p1).wf = true) (h2 : (Lit.int .i64 p2).wf = true) (h3 : okPar p3) (h4 : okRate p4) (h5 : (Lit.int .i64 p5).wf = true) (h6 : (Lit.int .i64 p6).wf = true) : laws_FnExactSourceNew p0 p1 p2 p3 p4 p5 p6 = some true := by
  have hm : maxLen = 9223372036854775807 := rfl
  have es : spec_SourceNew p0 p1 p2 p3 p4 p5 p6 = some (sourceNew p0 p1 p2 p3 p4 p5 p6) := by
    unfold spec_SourceNew sourceNew
    rw [spec_LevelFor_eq, bnd_s, spec_SourceOk_eq _ h2, bnd_s, sel_n]
    show sel (sourceOk (madeSource p0 p1 p2 p3 p4 p5 p6)) _ _ = _
    cases sourceOk (madeSource p0 p1 p2 p3 p4 p5 p6) <;> rfl
  have ei : impl_SourceNew p0 p1 p2 p3 p4 p5 p6 = some (sourceNew p0 p1 p2 p3 p4 p5 p6) := by
    unfold impl_SourceNew sourceNew
    rw [impl_LevelFor_eq _ _ (by simp [hm]) (by simp [hm]), bnd_s, impl_SourceOk_eq _ (by simp [hm]) (by simp [hm]), bnd_s, sel_n]
    show sel (sourceOk (madeSource p0 p1 p2 p3 p4 p5 p6)) _ _ = _
    cases sourceOk (madeSource p0 p1 p2 p3 p4 p5 p6) <;> rfl
  unfold laws_FnExactSourceNew
  simp only [laws_toPar, laws_toRate, bnd_s, es, ei]
  have hl : (sourceNew p0 p1 p2 p3 p4 p5 p6).1.Seq.Cols.length ≤ 1 ∧ (sourceNew p0 p1 p2 p3 p4 p5 p6).1.Seq.Rows.length ≤ 1 := by
    unfold sourceNew; split
    · exact ⟨Nat.le_refl _, Nat.le_refl _⟩
    · exact ⟨Nat.zero_le _, Nat.zero_le _⟩
  generalize sourceNew p0 p1 p2 p3 p4 p5 p6 = g at hl ⊢
  obtain ⟨g, b⟩ := g
  simp only at hl ⊢
  have hmk : laws_markSource g 1 = some ((1 : Int) + g.Seq.Cols.length + g.Seq.Rows.length, (⟨(⟨g.Seq.Level, g.Seq.Bits, markI 1 g.Seq.Cols, markI ((1 : Int) + g.Seq.Cols.length) g.Seq.Rows⟩ : Seq), g.Par, g.Rate, g.Frame, g.Since, g.Every, g.Reach, g.Has, g.Ref⟩ : Source)) := by
    unfold laws_markSource
    rw [laws_markSeq_eq _ _ (by omega) (by omega) (by omega) (by omega), bnd_s]
  have hhd : laws_heldSource (⟨(⟨g.Seq.Level, g.Seq.Bits, markI 1 g.Seq.Cols, markI ((1 : Int) + g.Seq.Cols.length) g.Seq.Rows⟩ : Seq), g.Par, g.Rate, g.Frame, g.Since, g.Every, g.Reach, g.Has, g.Ref⟩ : Source) 1 = some ((1 : Int) + g.Seq.Cols.length + g.Seq.Rows.length) := by
    unfold laws_heldSource
    rw [laws_heldSeq_eq _ g.Seq.Cols g.Seq.Rows 1 (by omega) (by omega) (by omega) (by omega) rfl rfl, bnd_s, sel_no (by omega)]
  simp only [laws_eqSource_self g (by omega) (by omega), bnd_s, sel_t, beq_self_eq_true, Bool.not_true, sel_f, hmk, hhd, bne_self_eq_false]
  rw [sel_no (by omega), sel_no (by omega)]
end Go.Proofs.Ytplmeeookgefnaa.A.Pure
