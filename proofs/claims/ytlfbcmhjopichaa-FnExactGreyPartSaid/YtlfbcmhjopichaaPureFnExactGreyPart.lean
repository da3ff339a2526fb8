/- The pure statement of the law FnExactGreyPart: over numbers and lists alone, the printed function answers true. Conditions: none beyond the sizes of what a machine holds. -/
import Derived.Test.YtlfbcmhjopichaaQFnExactGreyPartx8
import Derived.Laws.BitsLemmas
namespace Go.Proofs.Ytlfbcmhjopichaa.Pure
open Go.RowKit Go.Proofs.Ytlfbcmhjopichaa.QFnExactGreyPart Go.Proofs.YtlfbcmhjopichaaW.PrintWords Go.Proofs.YtlfbcmhjopichaaW.PrintLast Go.Proofs.YtlfbcmhjopichaaW.PrintMore
set_option linter.unusedVariables false
set_option linter.unusedSimpArgs false

-- base: whole numbers
theorem wf64 {n : Int} (h : (Lit.int .i64 n).wf = true) : -9223372036854775808 ≤ n ∧ n ≤ 9223372036854775807 := by
  simp [Lit.wf, IntKind.min, IntKind.max, IntKind.signed, IntKind.bits] at h
  omega
theorem w64 {e : Int} (h1 : -9223372036854775808 ≤ e) (h2 : e ≤ 9223372036854775807) : wrap64 e = e := by unfold wrap64; omega
theorem tmod_pos {a b : Int} (h : 0 ≤ a) : Int.tmod a b = a % b := Int.tmod_eq_emod_of_nonneg h
theorem tdiv_pos {a b : Int} (h : 0 ≤ a) : Int.tdiv a b = a / b := Int.tdiv_eq_ediv_of_nonneg h
theorem w64_wf (e : Int) : -9223372036854775808 ≤ wrap64 e ∧ wrap64 e ≤ 9223372036854775807 := by unfold wrap64; omega
-- base: rounds
theorem Ev.mk_ {α : Type} {g : Nat → Option α} {r : α} (K : Nat) (h : ∀ k, K ≤ k → g k = some r) : Ev g r := ⟨K, h⟩
theorem Ev.succ {α : Type} {g : Nat → Option α} {r : α} (h : ∀ k, g (k + 1) = some r) : Ev g r := ⟨1, fun k hk => by obtain ⟨m, rfl⟩ : ∃ m, k = m + 1 := ⟨k - 1, by omega⟩; exact h m⟩
theorem Ev.some {α : Type} (r : α) : Ev (fun _ => Option.some r) r := ⟨0, fun _ _ => rfl⟩
theorem Ev.const {α : Type} {o : Option α} {r : α} (h : o = Option.some r) : Ev (fun _ => o) r := ⟨0, fun _ _ => h⟩
theorem Ev.ite {α : Type} {c : Prop} [Decidable c] {g f : Nat → Option α} {r : α} (h1 : c → Ev g r) (h2 : ¬ c → Ev f r) : Ev (fun k => if c then g k else f k) r := by
  by_cases h : c
  · simpa only [if_pos h] using h1 h
  · simpa only [if_neg h] using h2 h
theorem Ev.pos {α : Type} {c : Prop} [Decidable c] {g f : Nat → Option α} {r : α} (hc : c) (h : Ev g r) : Ev (fun k => if c then g k else f k) r := by
  simpa only [if_pos hc] using h
theorem Ev.neg {α : Type} {c : Prop} [Decidable c] {g f : Nat → Option α} {r : α} (hc : ¬ c) (h : Ev f r) : Ev (fun k => if c then g k else f k) r := by
  simpa only [if_neg hc] using h
theorem Ev.bindc {α β : Type} {o : Option α} {f : Nat → α → Option β} {a : α} {r : β} (h : o = Option.some a) (k : Ev (fun n => f n a) r) : Ev (fun n => o.bind (f n)) r := by
  subst h; exact k
-- within
theorem impl_within_eq (a b c : Int) : impl_within.f a b c = some (decide (b ≤ a ∧ a ≤ c)) := by
  unfold impl_within.f
  by_cases h : a ≥ b
  · rw [if_pos h]; simp [show b ≤ a from h]
  · rw [if_neg h]; simp; omega
-- l01In
theorem spec_l01In_eq (a b c : Int) : spec_l01In.f a b c = some (decide (b ≤ a ∧ a ≤ c)) := by
  unfold spec_l01In.f
  by_cases h : a ≥ b
  · rw [if_pos h]; simp [show b ≤ a from h]
  · rw [if_neg h]; simp; omega
-- lists: rd and drop
theorem rd_drop (l : List Int) (i : Nat) (h : i < l.length) : l.drop i = rd l i :: l.drop (i + 1) := by
  rw [List.drop_eq_getElem_cons h]
  congr 1
  simp [rd, List.getD_eq_getElem?_getD, List.getElem?_eq_getElem h]
theorem w64_succ {i n : Nat} (h : i < n) (hn : n ≤ 9223372036854775807) : wrap64 ((i : Int) + 1) = ((i + 1 : Nat) : Int) := by
  rw [w64 (by omega) (by omega)]; omega
-- downwards
theorem down_to {P : Nat → Prop} (n : Nat) (h0 : P n) (hs : ∀ i, i < n → P (i + 1) → P i) : ∀ i, i ≤ n → P i := by
  have key : ∀ d i, n - i = d → i ≤ n → P i := by
    intro d
    induction d with
    | zero => intro i hd hi; obtain rfl : i = n := by omega
              exact h0
    | succ d ih => intro i hd hi; exact hs i (by omega) (ih (i + 1) (by omega) (by omega))
  exact fun i hi => key (n - i) i rfl hi
-- ParOk
def parOk (q : Int) (l e : Bool) : Bool := decide (0 ≤ q ∧ q ≤ 40) && !(l && e)
-- ParOk impl
theorem impl_ParOk_eq (q : Int) (l e c : Bool) : impl_ParOk.f q l e c = some (parOk q l e) := by
  unfold impl_ParOk.f parOk
  simp only [impl_within_eq, Option.bind_some]
  cases decide (0 ≤ q ∧ q ≤ 40) <;> cases l <;> cases e <;> rfl
-- ParOk spec
theorem spec_ParOk_eq (q : Int) (l e c : Bool) : spec_ParOk.f q l e c = some (parOk q l e) := by
  unfold spec_ParOk.f parOk
  simp only [spec_l01In_eq, Option.bind_some]
  cases decide (0 ≤ q ∧ q ≤ 40) <;> cases l <;> cases e <;> rfl
-- squares
def lvIn (x : Int) : Bool := decide (-5000 ≤ x ∧ x ≤ 5000)
def lv64 (l : List Int) : Bool := decide (l.length = 64) && l.all lvIn
-- squares: impl levels
theorem impl_areLevels_ev (l : List Int) (hl : l.length ≤ 9223372036854775806) : Ev (fun k => impl_areLevels.f k l) (lv64 l) := by
  unfold impl_areLevels.f impl_areIn.f
  have key : ∀ i, i ≤ l.length → Ev (fun k => impl_areIn.l0 k l 64 (-5000) 5000 l (l.length : Int) i) ((l.drop i).all lvIn && decide (l.length = 64)) := by
    refine down_to _ ?_ ?_
    · rw [List.drop_length]
      refine Ev.step (f := fun _ => some ((l.length : Int) == 64)) (fun k => by rw [impl_areIn.l0, if_neg (by omega)]) (Ev.const ?_)
      simp only [List.all_nil, Bool.true_and, Option.some.injEq]
      rw [Bool.eq_iff_iff]; simp; omega
    · intro i hi ih
      refine Ev.step (fun k => by rw [impl_areIn.l0, if_pos (by omega), if_pos (by omega), if_pos (by omega), impl_within_eq, Option.bind_some, w64_succ hi (by omega)]) ?_
      rw [rd_drop l i hi, List.all_cons]
      simp only [decide_eq_true_eq]
      refine Ev.ite (fun h => ?_) (fun h => ?_)
      · simpa [lvIn, h] using ih
      · simpa [lvIn, h] using Ev.some false
  have := key 0 (by omega)
  rw [List.drop_zero, Bool.and_comm] at this
  exact Ev.bind this (Ev.some _)
-- squares: right
def sqOkB (kd mode dx dy : Int) (l : List Int) : Bool := if kd = 0 then (mode == 0 && (dx == 0 && (dy == 0 && ((l.length : Int) == 0)))) else if kd = 1 then (mode == 0 && (decide (-16 ≤ dx ∧ dx ≤ 16) && (decide (-16 ≤ dy ∧ dy ≤ 16) && lv64 l))) else if kd = 2 then (decide (0 ≤ mode ∧ mode ≤ 3) && (dx == 0 && (dy == 0 && lv64 l))) else false
-- squares: impl right
theorem impl_SquareOk_ev (kd mode dx dy : Int) (l : List Int) (hl : l.length ≤ 9223372036854775806) : Ev (fun k => impl_SquareOk.f k kd mode dx dy l) (sqOkB kd mode dx dy l) := by
  unfold impl_SquareOk.f sqOkB
  simp only [impl_within_eq, Option.bind_some, decide_eq_true_eq]
  by_cases h0 : kd = 0
  · simp only [if_pos h0]
    refine Ev.const ?_
    by_cases h1 : mode = 0
    · by_cases h2 : dx = 0
      · by_cases h3 : dy = 0
        · simp [h1, h2, h3]
        · simp [h1, h2, h3]
      · simp [h1, h2]
    · simp [h1]
  simp only [if_neg h0]
  by_cases h1 : kd = 1
  · simp only [if_pos h1]
    by_cases h2 : mode = 0
    · by_cases h3 : -16 ≤ dx ∧ dx ≤ 16
      · by_cases h4 : -16 ≤ dy ∧ dy ≤ 16
        · simp only [if_pos h2, if_pos h3, if_pos h4, decide_eq_true h3, decide_eq_true h4, Bool.true_and, h2, beq_self_eq_true]
          exact Ev.bind (impl_areLevels_ev l hl) (Ev.some _)
        · simpa [h2, h3, h4] using Ev.some false
      · simpa [h2, h3] using Ev.some false
    · simpa [h2, (beq_eq_false_iff_ne.mpr h2 : (mode == 0) = false)] using Ev.some false
  simp only [if_neg h1]
  by_cases h2 : kd = 2
  · simp only [if_pos h2]
    by_cases h3 : 0 ≤ mode ∧ mode ≤ 3
    · by_cases h4 : dx = 0
      · by_cases h5 : dy = 0
        · simp only [if_pos h3, if_pos h4, if_pos h5, decide_eq_true h3, Bool.true_and, h4, h5, beq_self_eq_true]
          exact Ev.bind (impl_areLevels_ev l hl) (Ev.some _)
        · simpa [h3, h4, h5, (beq_eq_false_iff_ne.mpr h5 : (dy == 0) = false)] using Ev.some false
      · simpa [h3, h4, (beq_eq_false_iff_ne.mpr h4 : (dx == 0) = false)] using Ev.some false
    · simpa [h3] using Ev.some false
  · simp only [if_neg h2]
    exact Ev.some _
-- condition
def condOk (qp : Int) (large exact : Bool) : Bool := decide (0 ≤ qp ∧ qp ≤ 40) && !(large && exact)
-- condition impl
theorem impl_CondOk_eq (key : Bool) (qp : Int) (large exact : Bool) : impl_CondOk.f key qp large exact = some (condOk qp large exact) := by
  unfold impl_CondOk.f condOk
  simp only [impl_within_eq, Option.bind_some, decide_eq_true_eq]
  by_cases h : 0 ≤ qp ∧ qp ≤ 40
  · cases large <;> cases exact <;> simp [h]
  · simp [h]
-- equal squares
theorem impl_ue0_ev : Ev (fun k => impl_ue.f k 0) (strOfNums [49]) := by
  refine Ev.of (k := 8) (fun k => impl_ue.mono 0 k) ?_
  decide +kernel
theorem rd_rep (n i : Nat) (s : S122) (h : i < n) : rd_T122 (List.replicate n s) i = s := by
  simp [rd_T122, List.getD_eq_getElem?_getD, h]
def rowN (B : List Int) : Nat → List Int
  | 0 => []
  | n + 1 => rowN B n ++ B
theorem rowN_length (B : List Int) : ∀ n, (rowN B n).length = n * B.length
  | 0 => by simp [rowN]
  | n + 1 => by rw [rowN, List.length_append, rowN_length B n, Nat.succ_mul]
theorem impl_TileRow_ev (s : S122) (key : Bool) (qp : Int) (large exact : Bool) (R : ByteArray) (hR : R.size ≤ 1000) (h1 : Ev (fun k => impl_SquareRow.f k s.f0 s.f1 s.f2 s.f3 s.f4 key qp large exact) (R, true)) (n : Nat) (hn : 1 ≤ n ∧ n ≤ 64) : Ev (fun k => impl_TileRow.f k (List.replicate n s) key qp large exact) (strOfNums (rowN (bytesOf R) n), true) := by
  unfold impl_TileRow.f
  simp only [impl_within_eq, Option.bind_some, decide_eq_true_eq, List.length_replicate, if_pos (show (1 : Int) ≤ (n : Int) ∧ (n : Int) ≤ 64 by omega)]
  have hb : (bytesOf R).length ≤ 1000 := by rw [bytesOf_length]; exact hR
  have key : ∀ i, i ≤ n → Ev (fun k => impl_TileRow.l0 k (rowN (bytesOf R) i) (List.replicate n s) n i key qp large exact) (strOfNums (rowN (bytesOf R) n), true) := by
    refine down_to _ ?_ ?_
    · exact Ev.step (f := fun _ => some (strOfNums (rowN (bytesOf R) n), true)) (fun k => by rw [impl_TileRow.l0, if_neg (by omega)]) (Ev.some _)
    · intro i hi ih
      refine Ev.step (fun k => by rw [impl_TileRow.l0, if_pos (by omega), if_pos (by omega), if_pos (by simp; omega), rd_rep n i s hi, w64_succ hi (by omega)]) ?_
      refine Ev.bind h1 ?_
      simp only [if_true]
      have hl := rowN_length (bytesOf R) i
      have hm : i * (bytesOf R).length ≤ 64 * 1000 := Nat.mul_le_mul (by omega) hb
      refine Ev.pos (by omega) ?_
      exact ih
  exact key 0 (by omega)
theorem impl_alike_ev (n : Int) (q : Int) (l e cf key : Bool) (a b c d : Int) (lv : List Int) (R : ByteArray) (hR : R.size ≤ 1000) (h1 : parOk q l e = true → Ev (fun k => impl_SquareRow.f k a b c d lv key q l e) (R, true)) : Ev (fun k => impl_alike.f k n q l e cf key a b c d lv) (if parOk q l e = true ∧ 1 ≤ n ∧ n ≤ 64 then (key, q, strOfNums (rowN (bytesOf R) n.toNat), true) else (false, 0, (⟨#[]⟩ : ByteArray), false)) := by
  unfold impl_alike.f
  simp only [impl_ParOk_eq, Option.bind_some]
  have no : Ev (fun k => impl_alike.j0 k n key true q l e cf a b c d lv) (false, 0, (⟨#[]⟩ : ByteArray), false) := Ev.step (fun k => by rw [impl_alike.j0, if_pos rfl]) (Ev.some _)
  cases hp : parOk q l e
  · rw [if_neg (fun h => by simp at h)]
    simpa using no
  · simp only [if_true, impl_within_eq, Option.bind_some, true_and]
    by_cases hn : 1 ≤ n ∧ n ≤ 64
    · rw [if_pos hn, decide_eq_true hn]
      refine Ev.step (fun k => by rw [impl_alike.j0, if_neg (by decide)]) ?_
      obtain ⟨m, rfl⟩ := Int.eq_ofNat_of_zero_le (show 0 ≤ n by omega)
      have key' : ∀ i, i ≤ m → Ev (fun k => impl_alike.l0 k (List.replicate i ⟨a, b, c, d, lv⟩) m i q l e cf a b c d lv key q (⟨#[]⟩ : ByteArray)) (key, q, strOfNums (rowN (bytesOf R) m), true) := by
        refine down_to _ ?_ ?_
        · refine Ev.step (fun k => by rw [impl_alike.l0, if_neg (by omega)]) ?_
          simp only [impl_CondFor.f, Option.bind_some]
          exact Ev.bind (impl_TileRow_ev ⟨a, b, c, d, lv⟩ key q l e R hR (h1 hp) m (by omega)) (Ev.some _)
        · intro i hi ih
          refine Ev.step (fun k => by rw [impl_alike.l0, if_pos (by omega), if_pos (by simp; omega), ← List.replicate_succ', w64_succ hi (by omega)]) ?_
          exact ih
      exact key' 0 (by omega)
    · rw [if_neg hn, decide_eq_false hn]
      exact no
-- a skipped square
theorem parOk_cond {q : Int} {l e : Bool} (h : parOk q l e = true) : condOk q l e = true := by
  unfold parOk at h
  unfold condOk
  simpa using h
theorem impl_SquareRow_skip {q : Int} {l e : Bool} (h : parOk q l e = true) : Ev (fun k => impl_SquareRow.f k 0 0 0 0 [] false q l e) (strOfNums [49], true) := by
  unfold impl_SquareRow.f
  refine Ev.bind (impl_SquareOk_ev 0 0 0 0 [] (by simp)) ?_
  simp only [show sqOkB 0 0 0 0 [] = true from rfl, if_true, impl_CondOk_eq, parOk_cond h, Option.bind_some, impl_Square_let.f, Bool.false_eq_true, if_false, Bool.not_true]
  refine Ev.step (fun k => by rw [impl_SquareRow.j0, if_neg (by decide)]) ?_
  simp only [Option.bind_some, Bool.false_eq_true, if_false]
  refine Ev.bind impl_ue0_ev (Ev.pos (by decide) ?_)
  refine Ev.step (fun k => by rw [impl_SquareRow.j1, if_neg (by decide), if_neg (by decide)]) ?_
  exact Ev.some _
theorem rowN_49 : ∀ n, rowN [49] n = List.replicate n (49 : Int)
  | 0 => rfl
  | n + 1 => by rw [rowN, rowN_49 n, List.replicate_succ']
-- grey squares
def greyB (large exact : Bool) : List Int := if (large || exact) = true then [49, 49] else [49, 49, 49, 49, 49]
def greyLv (large exact : Bool) : List Int := if (large || exact) = true then [49] else [49, 49, 49, 49]
theorem impl_levelsRow_grey (qp : Int) (large exact : Bool) : Ev (fun k => impl_levelsRow.f k (List.replicate 64 0) true qp large exact) (greyLv large exact) := by
  have e : Ev (fun k => impl_levelsRow.f k (List.replicate 64 0) true 0 large exact) (greyLv large exact) := by
    refine Ev.of (k := 160) (fun k => impl_levelsRow.mono (List.replicate 64 0) true 0 large exact k) ?_
    cases large <;> cases exact <;> decide +kernel
  exact e
theorem impl_SquareRow_grey {q : Int} {l e : Bool} (h : parOk q l e = true) : Ev (fun k => impl_SquareRow.f k 2 0 0 0 (List.replicate 64 0) true q l e) (strOfNums (greyB l e), true) := by
  unfold impl_SquareRow.f
  refine Ev.bind (impl_SquareOk_ev 2 0 0 0 (List.replicate 64 0) (by simp)) ?_
  simp only [show sqOkB 2 0 0 0 (List.replicate 64 0) = true by decide +kernel, if_true, impl_CondOk_eq, parOk_cond h, Option.bind_some, impl_Square_let.f, beq_self_eq_true, Bool.not_true]
  refine Ev.step (fun k => by rw [impl_SquareRow.j0, if_neg (by decide)]) ?_
  simp only [Option.bind_some, if_true]
  refine Ev.step (fun k => by rw [impl_SquareRow.j1, if_neg (by decide), if_pos rfl]) ?_
  refine Ev.bind impl_ue0_ev (Ev.pos (by decide) ?_)
  simp only [Option.bind_some]
  refine Ev.bind (impl_levelsRow_grey q l e) ?_
  cases l <;> cases e
  all_goals
    refine Ev.pos (by decide) ?_
    exact Ev.const (by decide +kernel)
-- grey squares: spec
theorem spec_l03Ue0_ev : Ev (fun k => spec_l03Ue.f k 0) (strOfNums [49]) := by
  refine Ev.of (k := 8) (fun k => spec_l03Ue.mono 0 k) ?_
  decide +kernel
theorem spec_l14Row_grey (qp : Int) (large exact : Bool) : Ev (fun k => spec_l14Row.f k (List.replicate 64 0) true qp large exact) (strOfNums (greyLv large exact)) := by
  have e : Ev (fun k => spec_l14Row.f k (List.replicate 64 0) true 0 large exact) (strOfNums (greyLv large exact)) := by
    refine Ev.of (k := 160) (fun k => spec_l14Row.mono (List.replicate 64 0) true 0 large exact k) ?_
    cases large <;> cases exact <;> decide +kernel
  exact e
theorem spec_l15Row_grey (q : Int) (l e : Bool) : Ev (fun k => spec_l15Row.f k 2 0 0 0 (List.replicate 64 0) true q l e) (strOfNums (greyB l e)) := by
  unfold spec_l15Row.f
  simp only [if_true]
  refine Ev.step (fun k => by rw [spec_l15Row.j0, if_neg (by decide), if_pos rfl]) ?_
  refine Ev.bind spec_l03Ue0_ev (Ev.pos (by decide) ?_)
  refine Ev.bind (spec_l14Row_grey q l e) ?_
  cases l <;> cases e
  all_goals
    refine Ev.pos (by decide) ?_
    exact Ev.const (by decide +kernel)
theorem strOf_append (a b : List Int) : strOfNums a ++ strOfNums b = strOfNums (a ++ b) := by
  unfold strOfNums
  apply ByteArray.ext
  simp
theorem spec_GreyPart_ev (n : Int) (q : Int) (l e cf : Bool) : Ev (fun k => spec_GreyPart.f k n q l e cf) (if parOk q l e = true ∧ 1 ≤ n ∧ n ≤ 64 then (true, q, strOfNums (rowN (greyB l e) n.toNat), true) else (false, 0, (⟨#[]⟩ : ByteArray), false)) := by
  unfold spec_GreyPart.f
  simp only [spec_ParOk_eq, Option.bind_some]
  have no : Ev (fun k => spec_GreyPart.j0 k n true q l e cf) (false, 0, (⟨#[]⟩ : ByteArray), false) := Ev.step (fun k => by rw [spec_GreyPart.j0, if_pos rfl]) (Ev.some _)
  cases hp : parOk q l e
  · rw [if_neg (fun h => by simp at h)]
    simpa using no
  · simp only [if_true, spec_l01In_eq, Option.bind_some, true_and]
    by_cases hn : 1 ≤ n ∧ n ≤ 64
    · rw [if_pos hn, decide_eq_true hn]
      refine Ev.step (fun k => by rw [spec_GreyPart.j0, if_neg (by decide)]) ?_
      obtain ⟨m, rfl⟩ := Int.eq_ofNat_of_zero_le (show 0 ≤ n by omega)
      have hg : (greyB l e).length ≤ 5 := by cases l <;> cases e <;> decide
      have sz : ∀ a : List Int, (strOfNums a).size = a.length := fun a => by simp [strOfNums, ByteArray.size]
      have key' : ∀ i, i ≤ m → Ev (fun k => spec_GreyPart.l0 k m i q l e cf true q (strOfNums (rowN (greyB l e) i))) (true, q, strOfNums (rowN (greyB l e) m), true) := by
        refine down_to _ ?_ ?_
        · exact Ev.step (f := fun _ => some (true, q, strOfNums (rowN (greyB l e) m), true)) (fun k => by rw [spec_GreyPart.l0, if_neg (by omega)]) (Ev.some _)
        · intro i hi ih
          refine Ev.step (fun k => by rw [spec_GreyPart.l0, if_pos (by omega), if_pos (by omega), w64_succ hi (by omega)]) ?_
          simp only [spec_CondFor.f, Option.bind_some]
          refine Ev.bind (spec_l15Row_grey q l e) ?_
          have hl := rowN_length (greyB l e) i
          have hm : i * (greyB l e).length ≤ 64 * 5 := Nat.mul_le_mul (by omega) hg
          refine Ev.pos (by rw [sz, sz]; omega) ?_
          rw [strOf_append]
          exact ih
      exact key' 0 (by omega)
    · rw [if_neg hn, decide_eq_false hn]
      exact no
-- LAW FnExactGreyPart
theorem FnExactGreyPart (a0 : Int) (a1_0 : Int) (a1_1 a1_2 a1_3 : Bool) :
    ∃ k, laws_FnExactGreyPart.f k a0 a1_0 a1_1 a1_2 a1_3 = some true := by
  refine Ev.rounds (g := fun k => laws_FnExactGreyPart.f k a0 a1_0 a1_1 a1_2 a1_3) ?_
  unfold laws_FnExactGreyPart.f laws_toPar.f
  simp only [Option.bind_some]
  have e2 : Ev (fun k => impl_GreyPart.f k a0 a1_0 a1_1 a1_2 a1_3) (if parOk a1_0 a1_1 a1_2 = true ∧ 1 ≤ a0 ∧ a0 ≤ 64 then (true, a1_0, strOfNums (rowN (greyB a1_1 a1_2) a0.toNat), true) else (false, 0, (⟨#[]⟩ : ByteArray), false)) := by
    unfold impl_GreyPart.f
    simp only [if_pos (show 64 ≤ 35184372088832 by omega)]
    have := impl_alike_ev a0 a1_0 a1_1 a1_2 a1_3 true 2 0 0 0 (List.replicate 64 0) (strOfNums (greyB a1_1 a1_2)) (by cases a1_1 <;> cases a1_2 <;> decide) (fun h => impl_SquareRow_grey h)
    rw [show bytesOf (strOfNums (greyB a1_1 a1_2)) = greyB a1_1 a1_2 from by cases a1_1 <;> cases a1_2 <;> decide] at this
    refine Ev.bind this ?_
    exact Ev.some _
  have e1 := spec_GreyPart_ev a0 a1_0 a1_1 a1_2 a1_3
  refine Ev.bind e1 (Ev.bind e2 ?_)
  simp only [laws_eqPart.f, bne_self_eq_false, Bool.false_eq_true, if_false, if_true, Option.bind_some]
  exact Ev.some _

end Go.Proofs.Ytlfbcmhjopichaa.Pure
