/- The pure statement of the law FnExactPacketsOf: over numbers and lists alone, the printed function answers true. Conditions: none beyond the sizes of what a machine holds. -/
import Derived.Test.YtlfbcmhjopichaaQFnExactPacketsOfx7
import Derived.Laws.BitsLemmas
namespace Go.Proofs.Ytlfbcmhjopichaa.Pure
open Go.RowKit Go.Proofs.Ytlfbcmhjopichaa.QFnExactPacketsOf Go.Proofs.YtlfbcmhjopichaaW.PrintWords Go.Proofs.YtlfbcmhjopichaaW.PrintLast Go.Proofs.YtlfbcmhjopichaaW.PrintMore
set_option linter.unusedVariables false
set_option linter.unusedSimpArgs false

-- base: whole numbers
theorem wf64 {n : Int} (h : (Lit.int .i64 n).wf = true) : -9223372036854775808 ≤ n ∧ n ≤ 9223372036854775807 := by
  simp [Lit.wf, IntKind.min, IntKind.max, IntKind.signed, IntKind.bits] at h
  omega
theorem w64 {e : Int} (h1 : -9223372036854775808 ≤ e) (h2 : e ≤ 9223372036854775807) : wrap64 e = e := by unfold wrap64; omega
theorem tmod_pos {a b : Int} (h : 0 ≤ a) : Int.tmod a b = a % b := Int.tmod_eq_emod_of_nonneg h
theorem tdiv_pos {a b : Int} (h : 0 ≤ a) : Int.tdiv a b = a / b := Int.tdiv_eq_ediv_of_nonneg h
theorem w64_wf (e : Int) : -9223372036854775808 ≤ wrap64 e ∧ wrap64 e ≤ 9223372036854775807 := by unfold wrap64; omega
-- base: rounds
theorem Ev.mk_ {α : Type} {g : Nat → Option α} {r : α} (K : Nat) (h : ∀ k, K ≤ k → g k = some r) : Ev g r := ⟨K, h⟩
theorem Ev.succ {α : Type} {g : Nat → Option α} {r : α} (h : ∀ k, g (k + 1) = some r) : Ev g r := ⟨1, fun k hk => by obtain ⟨m, rfl⟩ : ∃ m, k = m + 1 := ⟨k - 1, by omega⟩; exact h m⟩
theorem Ev.some {α : Type} (r : α) : Ev (fun _ => Option.some r) r := ⟨0, fun _ _ => rfl⟩
theorem Ev.const {α : Type} {o : Option α} {r : α} (h : o = Option.some r) : Ev (fun _ => o) r := ⟨0, fun _ _ => h⟩
theorem Ev.ite {α : Type} {c : Prop} [Decidable c] {g f : Nat → Option α} {r : α} (h1 : c → Ev g r) (h2 : ¬ c → Ev f r) : Ev (fun k => if c then g k else f k) r := by
  by_cases h : c
  · simpa only [if_pos h] using h1 h
  · simpa only [if_neg h] using h2 h
theorem Ev.pos {α : Type} {c : Prop} [Decidable c] {g f : Nat → Option α} {r : α} (hc : c) (h : Ev g r) : Ev (fun k => if c then g k else f k) r := by
  simpa only [if_pos hc] using h
theorem Ev.neg {α : Type} {c : Prop} [Decidable c] {g f : Nat → Option α} {r : α} (hc : ¬ c) (h : Ev f r) : Ev (fun k => if c then g k else f k) r := by
  simpa only [if_neg hc] using h
theorem Ev.bindc {α β : Type} {o : Option α} {f : Nat → α → Option β} {a : α} {r : β} (h : o = Option.some a) (k : Ev (fun n => f n a) r) : Ev (fun n => o.bind (f n)) r := by
  subst h; exact k
-- within
theorem impl_within_eq (a b c : Int) : impl_within.f a b c = some (decide (b ≤ a ∧ a ≤ c)) := by
  unfold impl_within.f
  by_cases h : a ≥ b
  · rw [if_pos h]; simp [show b ≤ a from h]
  · rw [if_neg h]; simp; omega
-- l01In
theorem spec_l01In_eq (a b c : Int) : spec_l01In.f a b c = some (decide (b ≤ a ∧ a ≤ c)) := by
  unfold spec_l01In.f
  by_cases h : a ≥ b
  · rw [if_pos h]; simp [show b ≤ a from h]
  · rw [if_neg h]; simp; omega
-- isNumber
theorem impl_isNumber_eq (a : Int) : impl_isNumber.f a = some (decide (0 ≤ a ∧ a ≤ 65535)) := by
  unfold impl_isNumber.f; rw [impl_within_eq]; rfl
-- SeqPlus value
def seqPlus (a b : Int) : Int := if 0 ≤ a ∧ a ≤ 65535 ∧ 0 ≤ b ∧ b ≤ 65535 then (a + b) % 65536 else 0
-- SeqPlus impl
theorem impl_SeqPlus_eq (a b : Int) : impl_SeqPlus.f a b = some (seqPlus a b) := by
  unfold impl_SeqPlus.f seqPlus
  rw [impl_isNumber_eq, impl_isNumber_eq]
  simp only [Option.bind_some, decide_eq_true_eq]
  by_cases h1 : 0 ≤ a ∧ a ≤ 65535
  · by_cases h2 : 0 ≤ b ∧ b ≤ 65535
    · rw [if_pos h1, if_pos h2, if_pos ⟨h1.1, h1.2, h2⟩, w64 (by omega) (by omega), tmod_pos (by omega)]
    · rw [if_pos h1, if_neg h2, if_neg (fun h => h2 h.2.2)]
  · rw [if_neg h1, if_neg (fun h => h1 ⟨h.1, h.2.1⟩)]
-- SeqPlus spec
theorem spec_SeqPlus_eq (a b : Int) : spec_SeqPlus.f a b = some (seqPlus a b) := by
  unfold spec_SeqPlus.f seqPlus
  rw [spec_l01In_eq, spec_l01In_eq]
  simp only [Option.bind_some, decide_eq_true_eq]
  by_cases h1 : 0 ≤ a ∧ a ≤ 65535
  · by_cases h2 : 0 ≤ b ∧ b ≤ 65535
    · rw [if_pos h1, if_pos h2, if_pos ⟨h1.1, h1.2, h2⟩, w64 (by omega) (by omega), tmod_pos (by omega)]
    · rw [if_pos h1, if_neg h2, if_neg (fun h => h2 h.2.2)]
  · rw [if_neg h1, if_neg (fun h => h1 ⟨h.1, h.2.1⟩)]
-- lists: rd and drop
theorem rd_drop (l : List Int) (i : Nat) (h : i < l.length) : l.drop i = rd l i :: l.drop (i + 1) := by
  rw [List.drop_eq_getElem_cons h]
  congr 1
  simp [rd, List.getD_eq_getElem?_getD, List.getElem?_eq_getElem h]
theorem w64_succ {i n : Nat} (h : i < n) (hn : n ≤ 9223372036854775807) : wrap64 ((i : Int) + 1) = ((i + 1 : Nat) : Int) := by
  rw [w64 (by omega) (by omega)]; omega
-- eqPacket
theorem laws_eqPacket_self (s : Int) (f l : Bool) (b : ByteArray) : laws_eqPacket.f s f l b s f l b = some true := by
  simp [laws_eqPacket.f]
-- downwards
theorem down_to {P : Nat → Prop} (n : Nat) (h0 : P n) (hs : ∀ i, i < n → P (i + 1) → P i) : ∀ i, i ≤ n → P i := by
  have key : ∀ d i, n - i = d → i ≤ n → P i := by
    intro d
    induction d with
    | zero => intro i hd hi; obtain rfl : i = n := by omega
              exact h0
    | succ d ih => intro i hd hi; exact hs i (by omega) (ih (i + 1) (by omega) (by omega))
  exact fun i hi => key (n - i) i rfl hi
-- loops that fill and loops that compare
theorem map_loop {α β : Type} (l : List β) (f : β → α) (L : Nat → List α → Nat → Option (List α)) (h0 : ∀ o : List α, o.length = l.length → Ev (fun k => L k o l.length) o)
    (hs : ∀ (i : Nat) (hi : i < l.length) (o : List α) (r : List α), o.length = l.length → Ev (fun k => L k (o.set i (f l[i])) (i + 1)) r → Ev (fun k => L k o i) r) (o : List α) (ho : o.length = l.length) : Ev (fun k => L k o 0) (l.map f) := by
  have key : ∀ i, i ≤ l.length → ∀ o : List α, o.length = l.length → Ev (fun k => L k o i) (o.take i ++ (l.drop i).map f) := by
    refine down_to _ ?_ ?_
    · intro o ho
      rw [List.take_of_length_le (by omega), List.drop_eq_nil_of_le (Nat.le_refl _), List.map_nil, List.append_nil]
      exact h0 o ho
    · intro i hi ih o ho
      refine hs i hi o _ ho ?_
      have := ih (o.set i (f l[i])) (by simpa using ho)
      rw [List.take_succ_eq_append_getElem (by simp; omega)] at this
      rw [List.drop_eq_getElem_cons hi, List.map_cons]
      simpa [List.take_set_of_le] using this
  simpa using key 0 (by omega) o ho
theorem self_loop (n : Nat) (L : Nat → Nat → Option Bool) (h0 : Ev (fun k => L k n) true) (hs : ∀ i, i < n → Ev (fun k => L k (i + 1)) true → Ev (fun k => L k i) true) : Ev (fun k => L k 0) true :=
  down_to (P := fun i => Ev (fun k => L k i) true) n h0 hs 0 (by omega)
-- packets: rows
theorem rdP (l : List S127) (i : Nat) (h : i < l.length) : rd_T127 l i = l[i] := by
  simp [rd_T127, List.getD_eq_getElem?_getD, List.getElem?_eq_getElem h]
-- eqPacketS
theorem laws_eqPacketS_self (l : List S127) (hl : l.length ≤ 9223372036854775806) : Ev (fun k => laws_eqPacketS.f k l l) true := by
  unfold laws_eqPacketS.f
  simp only [if_true]
  refine self_loop l.length (fun k i => laws_eqPacketS.l0 k l l i) ?_ ?_
  · exact Ev.step (fun k => by rw [laws_eqPacketS.l0, if_neg (by omega)]) (Ev.some _)
  · intro i hi h
    exact Ev.step (fun k => by rw [laws_eqPacketS.l0, if_pos (by omega), if_pos (by omega), if_pos (by omega), laws_eqPacket_self, Option.bind_some, if_pos rfl, w64_succ hi (by omega)]) h
-- no picture
def noPic (w h : Int) (d : ByteArray) : Bool := w == 0 && (h == 0 && (d.toList == ([] : List UInt8)))
theorem toList_loop (d : ByteArray) (n : Nat) : ∀ (i : Nat) (r : List UInt8), d.size - i = n → i ≤ d.size → (ByteArray.toList.loop d i r).length = r.length + (d.size - i) := by
  induction n with
  | zero =>
    intro i r h hi
    unfold ByteArray.toList.loop
    rw [if_neg (by omega)]
    simp; omega
  | succ n ih =>
    intro i r h hi
    unfold ByteArray.toList.loop
    rw [if_pos (by omega), ih (i + 1) (d.get! i :: r) (by omega) (by omega)]
    simp; omega
theorem toList_size (d : ByteArray) : d.toList.length = d.size := by
  unfold ByteArray.toList
  rw [toList_loop d _ 0 [] rfl (Nat.zero_le _)]; simp
theorem toList_nil_size (d : ByteArray) : (d.toList == ([] : List UInt8)) = ((d.size : Int) == 0) := by
  have e : d.toList.length = d.size := toList_size d
  rw [Bool.eq_iff_iff]
  simp only [beq_iff_eq]
  constructor
  · intro h; rw [h] at e; simp at e; omega
  · intro h; exact List.eq_nil_of_length_eq_zero (by omega)
-- escaped: value
def tz (x : List Int) : Nat := (x.reverse.takeWhile (· == 0)).length
theorem tz_nil : tz [] = 0 := rfl
theorem tz_zero (x : List Int) : tz (x ++ [0]) = tz x + 1 := by simp [tz, List.takeWhile_cons]
theorem tz_ne (x : List Int) (b : Int) (h : b ≠ 0) : tz (x ++ [b]) = 0 := by simp [tz, List.takeWhile_cons, h]
theorem tz_le (x : List Int) : tz x ≤ x.length := by
  have := List.Sublist.length_le (List.takeWhile_sublist (fun a : Int => a == 0) (l := x.reverse))
  simpa [tz] using this
theorem rd_app2 (x : List Int) (b c : Int) : rd (x ++ [b, c]) ((x.length : Int) + 1) = c ∧ rd (x ++ [b, c]) (x.length : Int) = b := by
  constructor
  · simp [rd, List.getD_eq_getElem?_getD, show ((x.length : Int) + 1).toNat = x.length + 1 from by omega]
  · simp [rd, List.getD_eq_getElem?_getD]
theorem tz_two (x : List Int) : 2 ≤ tz x ↔ (2 ≤ x.length ∧ rd x ((x.length : Int) - 1) = 0 ∧ rd x ((x.length : Int) - 2) = 0) := by
  rcases List.eq_nil_or_concat x with rfl | ⟨y, c, rfl⟩
  · simp [tz]
  · rcases List.eq_nil_or_concat y with rfl | ⟨z, b, rfl⟩
    · constructor
      · intro h; have := tz_le ([].concat c); simp at this h; omega
      · intro h; simp at h
    · simp only [List.concat_eq_append, List.append_assoc, List.singleton_append]
      have e1 := (rd_app2 z b c).1
      have e2 := (rd_app2 z b c).2
      rw [show (((z ++ [b, c]).length : Nat) : Int) - 1 = (z.length : Int) + 1 by simp; omega, show (((z ++ [b, c]).length : Nat) : Int) - 2 = (z.length : Int) by simp, e1, e2]
      by_cases hc : c = 0
      · by_cases hb : b = 0
        · subst hc; subst hb
          rw [show z ++ [(0 : Int), 0] = (z ++ [0]) ++ [0] by simp, tz_zero, tz_zero]
          simp
        · subst hc
          rw [show z ++ [b, (0 : Int)] = (z ++ [b]) ++ [0] by simp, tz_zero, tz_ne _ _ hb]
          simp [hb]
      · rw [show z ++ [b, c] = (z ++ [b]) ++ [c] by simp, tz_ne _ _ hc]
        simp [hc]
def escF (a : ByteArray) : Nat → List Int → List Int
  | 0, x => x
  | m + 1, x => escF a m ((if bt a ((a.size : Int) - (m + 1)) < 4 ∧ 2 ≤ tz x then x ++ [3] else x) ++ [bt a ((a.size : Int) - (m + 1))])
theorem escF_length (a : ByteArray) : ∀ m x, (escF a m x).length ≤ x.length + 2 * m
  | 0, x => by simp [escF]
  | m + 1, x => by
    rw [escF]
    refine Nat.le_trans (escF_length a m _) ?_
    split <;> simp <;> omega
def escV (a : ByteArray) : ByteArray × Bool := if 1 ≤ a.size ∧ a.size ≤ 60000 ∧ bt a ((a.size : Int) - 1) ≠ 0 then (strOfNums (escF a a.size []), true) else ((⟨#[]⟩ : ByteArray), false)
theorem strN_size (a : List Int) : (strOfNums a).size = a.length := by simp [strOfNums, ByteArray.size]
theorem escV_size (a : ByteArray) : (escV a).1.size ≤ 120000 := by
  unfold escV
  split
  · rename_i h
    have := escF_length a a.size []
    simp only [strN_size, List.length_nil] at this ⊢
    omega
  · simp [ByteArray.size]
-- escaped: spec
theorem spec_l04Escaped_ev (a : ByteArray) (h : a.size ≤ 60000) : Ev (fun k => spec_l04Escaped.f k a) (strOfNums (escF a a.size [])) := by
  unfold spec_l04Escaped.f
  have key : ∀ m, m ≤ a.size → ∀ x : List Int, x.length ≤ 2 * (a.size - m) → Ev (fun k => spec_l04Escaped.l0 k a x ((a.size : Int) - m)) (strOfNums (escF a m x)) := by
    intro m
    induction m with
    | zero => intro _ x _; exact Ev.step (f := fun _ => some (strOfNums x)) (fun k => by rw [spec_l04Escaped.l0, if_neg (by omega)]) (Ev.some _)
    | succ m ih =>
      intro hm x hx
      have put : ∀ y : List Int, y.length ≤ x.length + 1 → escF a (m + 1) x = escF a m (y ++ [bt a ((a.size : Int) - (m + 1))]) → Ev (fun k => spec_l04Escaped.l0 k a (y ++ [bt a ((a.size : Int) - ((m + 1 : Nat) : Int))]) (wrap64 ((a.size : Int) - ((m + 1 : Nat) : Int) + 1))) (strOfNums (escF a (m + 1) x)) := by
        intro y hy he
        rw [he, w64 (by omega) (by omega), show (a.size : Int) - ((m + 1 : Nat) : Int) + 1 = (a.size : Int) - (m : Int) by omega]
        exact ih (by omega) _ (by simp; omega)
      have e1 : wrap64 ((x.length : Int) - 1) = (x.length : Int) - 1 := w64 (by omega) (by omega)
      have e2 : wrap64 ((x.length : Int) - 2) = (x.length : Int) - 2 := w64 (by omega) (by omega)
      have ht := tz_two x
      refine Ev.step (f := fun k => if 2 ≤ tz x ∧ bt a ((a.size : Int) - ((m + 1 : Nat) : Int)) < 4 then spec_l04Escaped.l0 k a ((x ++ [3]) ++ [bt a ((a.size : Int) - ((m + 1 : Nat) : Int))]) (wrap64 ((a.size : Int) - ((m + 1 : Nat) : Int) + 1)) else spec_l04Escaped.l0 k a (x ++ [bt a ((a.size : Int) - ((m + 1 : Nat) : Int))]) (wrap64 ((a.size : Int) - ((m + 1 : Nat) : Int) + 1))) (fun k => ?_) ?_
      · rw [spec_l04Escaped.l0, if_pos (by omega), e1, e2]
        simp only [if_pos (show (0 : Int) ≤ (a.size : Int) - ((m + 1 : Nat) : Int) by omega), if_pos (show x.length < 140737488355328 by omega), Option.bind_some, if_pos (show (x ++ [3]).length < 140737488355328 by simp; omega)]
        by_cases h2 : (x.length : Int) ≥ 2
        · rw [if_pos h2, if_pos (by omega), if_pos (by omega)]
          by_cases h3 : rd x ((x.length : Int) - 1) = 0
          · rw [if_pos h3, if_pos (by omega), if_pos (by omega)]
            by_cases h4 : rd x ((x.length : Int) - 2) = 0
            · rw [if_pos h4]
              have hz : 2 ≤ tz x := ht.2 ⟨by omega, h3, h4⟩
              by_cases h5 : bt a ((a.size : Int) - ((m + 1 : Nat) : Int)) < 4
              · rw [if_pos h5, if_pos ⟨hz, h5⟩]
              · rw [if_neg h5, if_neg (fun h => h5 h.2)]
            · rw [if_neg h4, if_neg (fun h => h4 (ht.1 h.1).2.2)]
          · rw [if_neg h3, if_neg (fun h => h3 (ht.1 h.1).2.1)]
        · rw [if_neg h2, if_neg (fun h => h2 (by have := (ht.1 h.1).1; omega))]
      · refine Ev.ite (fun h => put _ (by simp) ?_) (fun h => put _ (by omega) ?_)
        · rw [escF, if_pos ⟨by simpa using h.2, h.1⟩]
        · rw [escF, if_neg (fun h' => h ⟨h'.2, by simpa using h'.1⟩)]
  simpa using key a.size (Nat.le_refl _) [] (by simp)
theorem spec_Escaped_ev (a : ByteArray) (hs : a.size ≤ 9223372036854775807) : Ev (fun k => spec_Escaped.f k a) (escV a) := by
  unfold spec_Escaped.f escV
  refine Ev.ite (fun h => ?_) (fun h => Ev.ite (fun h1 => ?_) (fun h1 => ?_))
  · rw [if_neg (by omega)]; exact Ev.some _
  · rw [if_neg (by omega)]; exact Ev.some _
  · rw [w64 (by omega) (by omega)]
    refine Ev.pos (by omega) (Ev.pos (by omega) (Ev.ite (fun h2 => ?_) (fun h2 => ?_)))
    · rw [if_neg (fun hh => hh.2.2 h2)]; exact Ev.some _
    · rw [if_pos ⟨by omega, by omega, h2⟩]; exact Ev.bind (spec_l04Escaped_ev a (by omega)) (Ev.some _)
-- escaped: impl
theorem impl_Escaped_loop (a : ByteArray) (h : a.size ≤ 60000) : ∀ m, m ≤ a.size → ∀ x : List Int, x.length ≤ 2 * (a.size - m) → Ev (fun k => impl_Escaped.l0 k a x (tz x) ((a.size : Int) - m)) (strOfNums (escF a m x), true) := by
  intro m
  induction m with
  | zero => intro _ x _; exact Ev.step (f := fun _ => some (strOfNums x, true)) (fun k => by rw [impl_Escaped.l0, if_neg (by omega)]) (Ev.some _)
  | succ m ih =>
    intro hm x hx
    have hz := tz_le x
    have go : ∀ (y : List Int) (z : Int), y.length ≤ x.length + 1 → (∃ n : Nat, z = n ∧ n = tz y) → escF a (m + 1) x = escF a m (y ++ [bt a ((a.size : Int) - (m + 1))]) →
        Ev (fun k => if bt a ((a.size : Int) - ((m + 1 : Nat) : Int)) = 0 then impl_Escaped.l0 k a (y ++ [bt a ((a.size : Int) - ((m + 1 : Nat) : Int))]) (z + 1) (wrap64 ((a.size : Int) - ((m + 1 : Nat) : Int) + 1)) else impl_Escaped.l0 k a (y ++ [bt a ((a.size : Int) - ((m + 1 : Nat) : Int))]) 0 (wrap64 ((a.size : Int) - ((m + 1 : Nat) : Int) + 1))) (strOfNums (escF a (m + 1) x), true) := by
      intro y z hy ⟨n, hn, hn2⟩ he
      rw [he, w64 (by omega) (by omega), show (a.size : Int) - ((m + 1 : Nat) : Int) + 1 = (a.size : Int) - (m : Int) by omega]
      have hi := ih (by omega) (y ++ [bt a ((a.size : Int) - (m + 1))]) (by simp; omega)
      refine Ev.ite (fun h0 => ?_) (fun h0 => ?_)
      · rw [show ((m + 1 : Nat) : Int) = (m : Int) + 1 by omega] at h0
        rw [h0] at hi ⊢
        rw [tz_zero, ← hn2] at hi
        rw [show ((m + 1 : Nat) : Int) = (m : Int) + 1 by omega, h0, hn]
        exact hi
      · rw [show ((m + 1 : Nat) : Int) = (m : Int) + 1 by omega] at h0
        rw [tz_ne _ _ h0] at hi
        exact hi
    have e1 : wrap64 ((tz x : Int) + 1) = (tz x : Int) + 1 := w64 (by omega) (by omega)
    by_cases hc : bt a ((a.size : Int) - ((m + 1 : Nat) : Int)) < 4 ∧ 2 ≤ tz x
    · refine Ev.step (fun k => by rw [impl_Escaped.l0, if_pos (by omega), if_pos (by omega), if_pos hc.1, decide_eq_true (by omega)]) ?_
      refine Ev.step (fun k => by rw [impl_Escaped.j2, if_pos rfl, if_pos (by omega), Option.bind_some, if_pos (by omega), if_pos (by omega), if_pos (by simp; omega), Option.bind_some]) ?_
      refine go (x ++ [3]) 0 (by simp) ⟨0, rfl, (tz_ne _ _ (by decide)).symm⟩ ?_
      rw [escF, if_pos ⟨by simpa using hc.1, hc.2⟩]
    · have rest : Ev (fun k => impl_Escaped.j2 k a x (tz x) ((a.size : Int) - ((m + 1 : Nat) : Int)) false) (strOfNums (escF a (m + 1) x), true) := by
        refine Ev.step (fun k => by rw [impl_Escaped.j2, if_neg (by decide), if_pos (by omega), if_pos (by omega), if_pos (by omega), Option.bind_some, e1]) ?_
        refine go x (tz x) (by omega) ⟨tz x, rfl, rfl⟩ ?_
        rw [escF, if_neg (fun h' => hc ⟨by simpa using h'.1, h'.2⟩)]
      refine Ev.step (f := fun k => impl_Escaped.j2 k a x (tz x) ((a.size : Int) - ((m + 1 : Nat) : Int)) false) (fun k => ?_) rest
      rw [impl_Escaped.l0, if_pos (by omega), if_pos (by omega)]
      by_cases h4 : bt a ((a.size : Int) - ((m + 1 : Nat) : Int)) < 4
      · rw [if_pos h4, decide_eq_false (fun h => hc ⟨h4, by omega⟩)]
      · rw [if_neg h4]
theorem toList_nil {a : ByteArray} : a.toList = ([] : List UInt8) ↔ a.size = 0 := by
  rw [← List.length_eq_zero_iff, toList_size]
theorem impl_Escaped_ev (a : ByteArray) (hs : a.size ≤ 9223372036854775807) : Ev (fun k => impl_Escaped.f k a) (escV a) := by
  unfold impl_Escaped.f
  have no : ¬ (1 ≤ a.size ∧ a.size ≤ 60000 ∧ bt a ((a.size : Int) - 1) ≠ 0) → Ev (fun k => impl_Escaped.j0 k a true) (escV a) := by
    intro h; rw [escV, if_neg h]
    exact Ev.step (fun k => by rw [impl_Escaped.j0, if_pos rfl]) (Ev.some _)
  refine Ev.ite (fun h => no (by rw [toList_nil] at h; omega)) (fun h => Ev.ite (fun h1 => no (by omega)) (fun h1 => ?_))
  rw [toList_nil] at h
  rw [w64 (by omega) (by omega)]
  refine Ev.pos (by omega) (Ev.pos (by omega) ?_)
  by_cases h2 : bt a ((a.size : Int) - 1) = 0
  · rw [beq_iff_eq.2 h2]; exact no (fun hh => hh.2.2 h2)
  · rw [beq_eq_false_iff_ne.2 h2, escV, if_pos ⟨by omega, by omega, h2⟩]
    refine Ev.step (fun k => by rw [impl_Escaped.j0, if_neg (by decide), w64 (e := (a.size : Int) / 2) (by omega) (by omega), w64 (by omega) (by omega), if_pos (by omega), if_pos (by omega)]) ?_
    have := impl_Escaped_loop a (by omega) a.size (Nat.le_refl _) [] (by simp)
    simpa [tz_nil] using this
-- framed: value
def frm : List ByteArray → List Int → ByteArray × Bool
  | [], x => (strOfNums x, true)
  | u :: us, x => if (escV u).2 = true then (if x.length + 3 + (escV u).1.size > 60000 then ((⟨#[]⟩ : ByteArray), false) else frm us ((x ++ [0, 0, 1]) ++ bytesOf (escV u).1)) else ((⟨#[]⟩ : ByteArray), false)
def frmV (l : List ByteArray) : ByteArray × Bool := if l.length > 400 then ((⟨#[]⟩ : ByteArray), false) else frm l []
theorem frm_size : ∀ (l : List ByteArray) (x : List Int), x.length ≤ 60000 → (frm l x).1.size ≤ 60000
  | [], x, h => by simpa [frm, strN_size] using h
  | u :: us, x, h => by
    rw [frm]
    split
    · split
      · simp [ByteArray.size]
      · rename_i h2
        refine frm_size us _ ?_
        rw [List.length_append, bytesOf_length, List.length_append]; simp; omega
    · simp [ByteArray.size]
theorem frmV_size (l : List ByteArray) : (frmV l).1.size ≤ 60000 := by
  unfold frmV
  split
  · simp [ByteArray.size]
  · exact frm_size _ _ (by simp)
theorem rdS (l : List ByteArray) (i : Nat) (h : i < l.length) : rdOf ByteArray.empty l i = l[i] := by
  simp [rdOf, List.getD_eq_getElem?_getD, List.getElem?_eq_getElem h]
-- framed: spec
theorem spec_Framed_ev (l : List ByteArray) (hs : ∀ u ∈ l, u.size ≤ 9223372036854775807) : Ev (fun k => spec_Framed.f k l) (frmV l) := by
  unfold spec_Framed.f frmV
  refine Ev.ite (fun h => ?_) (fun h => ?_)
  · rw [if_pos (by omega)]; exact Ev.some _
  · rw [if_neg (by omega)]
    have key : ∀ i, i ≤ l.length → ∀ x : List Int, x.length ≤ 60000 → Ev (fun k => spec_Framed.l0 k l x i) (frm (l.drop i) x) := by
      refine down_to _ ?_ ?_
      · intro x _
        rw [List.drop_eq_nil_of_le (Nat.le_refl _), frm]
        exact Ev.step (fun k => by rw [spec_Framed.l0, if_neg (by omega)]) (Ev.some _)
      · intro i hi ih x hx
        have hz := escV_size l[i]
        rw [List.drop_eq_getElem_cons hi, frm]
        refine Ev.step (fun k => by rw [spec_Framed.l0, if_pos (by omega), if_pos (by omega), rdS l i hi]) ?_
        refine Ev.bind (spec_Escaped_ev l[i] (hs _ (List.getElem_mem hi))) ?_
        refine Ev.ite (fun h1 => ?_) (fun h1 => ?_)
        · rw [if_pos h1]
          simp only [Option.bind_some]
          refine Ev.pos (by simp; omega) (Ev.pos (by simp; omega) ?_)
          have hL : (((x ++ [0, 0, 1]) ++ bytesOf (escV l[i]).1).length : Nat) = x.length + 3 + (escV l[i]).1.size := by rw [List.length_append, bytesOf_length, List.length_append]; rfl
          refine Ev.ite (fun h2 => ?_) (fun h2 => ?_)
          · rw [if_pos (by omega)]; exact Ev.some _
          · rw [if_neg (by omega), w64_succ hi (by omega)]
            exact ih _ (by omega)
        · rw [if_neg h1]; exact Ev.some _
    exact key 0 (by omega) [] (by simp)
-- framed: impl
theorem impl_Framed_ev (l : List ByteArray) (hs : ∀ u ∈ l, u.size ≤ 9223372036854775807) : Ev (fun k => impl_Framed.f k l) (frmV l) := by
  unfold impl_Framed.f frmV
  refine Ev.ite (fun h => ?_) (fun h => ?_)
  · rw [if_pos (by omega)]; exact Ev.some _
  · rw [if_neg (by omega)]
    have key : ∀ i, i ≤ l.length → ∀ x : List Int, x.length ≤ 60000 → Ev (fun k => impl_Framed.l0 k x l l.length i) (frm (l.drop i) x) := by
      refine down_to _ ?_ ?_
      · intro x _
        rw [List.drop_eq_nil_of_le (Nat.le_refl _), frm]
        exact Ev.step (fun k => by rw [impl_Framed.l0, if_neg (by omega)]) (Ev.some _)
      · intro i hi ih x hx
        have hz := escV_size l[i]
        rw [List.drop_eq_getElem_cons hi, frm]
        refine Ev.step (fun k => by rw [impl_Framed.l0, if_pos (by omega), if_pos (by omega), if_pos (by omega), rdS l i hi]) ?_
        refine Ev.bind (impl_Escaped_ev l[i] (hs _ (List.getElem_mem hi))) ?_
        refine Ev.ite (fun h1 => ?_) (fun h1 => ?_)
        · rw [if_pos h1, w64 (e := (x.length : Int) + 3) (by omega) (by omega), w64 (by omega) (by omega)]
          simp only [Option.bind_some]
          have hL : (((x ++ [0, 0, 1]) ++ bytesOf (escV l[i]).1).length : Nat) = x.length + 3 + (escV l[i]).1.size := by rw [List.length_append, bytesOf_length, List.length_append]; rfl
          refine Ev.ite (fun h2 => ?_) (fun h2 => ?_)
          · rw [if_pos (by omega)]; exact Ev.some _
          · rw [if_neg (by omega), w64_succ hi (by omega)]
            exact Ev.pos (by simp; omega) (Ev.pos (by simp; omega) (ih _ (by omega)))
        · rw [if_neg h1]; exact Ev.some _
    exact key 0 (by omega) [] (by simp)
-- packets of a stream
def pkL (s : ByteArray) (a1 a2 : Int) : Nat → Int → List S127 → List S127
  | 0, _, x => x
  | m + 1, i, x => if i < (s.size : Int) then pkL s a1 a2 m (i + a2) (x ++ [⟨seqPlus a1 x.length, (i == 0), (mn (i + a2) s.size == (s.size : Int)), s.extract i.toNat (mn (i + a2) s.size).toNat⟩]) else x
theorem pkL_length (s : ByteArray) (a1 a2 : Int) : ∀ m i x, (pkL s a1 a2 m i x).length ≤ x.length + m
  | 0, _, x => by simp [pkL]
  | m + 1, i, x => by
    rw [pkL]
    split
    · refine Nat.le_trans (pkL_length s a1 a2 m _ _) ?_
      simp; omega
    · omega
def pkV (l : List ByteArray) (a1 a2 : Int) : List S127 × Bool :=
  if (0 ≤ a1 ∧ a1 ≤ 65535) ∧ (1 ≤ a2 ∧ a2 ≤ 400) ∧ (frmV l).2 = true ∧ (frmV l).1.size ≠ 0 ∧ ((frmV l).1.size + a2 - 1) / a2 ≤ 60 then (pkL (frmV l).1 a1 a2 60000 0 [], true) else ([], false)
theorem pkV_length (l : List ByteArray) (a1 a2 : Int) : (pkV l a1 a2).1.length ≤ 60000 := by
  unfold pkV
  split
  · simpa using pkL_length (frmV l).1 a1 a2 60000 0 []
  · simp
theorem mn_le (a b : Int) : mn a b ≤ b ∧ mn a b ≤ a ∧ (mn a b = a ∨ mn a b = b) := by unfold mn; split <;> omega
-- packets of a stream: spec
theorem spec_Brought0_ev (a b : Int) (h : 0 ≤ a) (hb : 0 ≤ b) : Ev (fun k => spec_Brought.f k a 0 b) (mn a b) := by
  unfold spec_Brought.f mn
  refine Ev.neg (by omega) ?_
  rw [decide_eq_false (by omega)]
  refine Ev.step (fun k => by rw [spec_Brought.j0, if_neg (by decide)]) ?_
  by_cases h1 : a > b
  · refine Ev.pos h1 ?_
    rw [if_pos (show b < a by omega)]; exact Ev.some _
  · refine Ev.neg h1 ?_
    rw [if_neg (show ¬ b < a by omega)]; exact Ev.some _
theorem spec_PacketsOf_loop (s : ByteArray) (a1 a2 : Int) (hs : s.size ≤ 60000) (h1 : 1 ≤ a2) (h2 : a2 ≤ 400) : ∀ m, m ≤ 60000 → ∀ (i : Int) (x : List S127), 0 ≤ i → x.length ≤ 60000 - m → (s.size : Int) - i ≤ m → Ev (fun k => spec_PacketsOf.l0 k a1 a2 x s i) (pkL s a1 a2 m i x, true) := by
  intro m
  induction m with
  | zero => intro _ i x h0 _ hm; exact Ev.step (f := fun _ => some (x, true)) (fun k => by rw [spec_PacketsOf.l0, if_neg (by omega)]) (Ev.some _)
  | succ m ih =>
    intro hm i x h0 hx hmi
    rw [pkL]
    by_cases hi : i < (s.size : Int)
    · rw [if_pos hi]
      have e := w64 (e := i + a2) (by omega) (by omega)
      have hmn := mn_le (i + a2) s.size
      refine Ev.step (fun k => by rw [spec_PacketsOf.l0, if_pos hi, e]) ?_
      refine Ev.bind (spec_Brought0_ev _ _ (by omega) (by omega)) ?_
      simp only [spec_SeqPlus_eq, Option.bind_some]
      exact Ev.pos h0 (Ev.pos (by omega) (Ev.pos (by omega) (Ev.pos (by omega) (ih (by omega) _ _ (by omega) (by simp; omega) (by omega)))))
    · rw [if_neg hi]
      exact Ev.step (fun k => by rw [spec_PacketsOf.l0, if_neg hi]) (Ev.some _)
theorem spec_PacketsOf_ev (l : List ByteArray) (a1 a2 : Int) (hs : ∀ u ∈ l, u.size ≤ 9223372036854775807) : Ev (fun k => spec_PacketsOf.f k l a1 a2) (pkV l a1 a2) := by
  unfold spec_PacketsOf.f
  simp only [Option.bind_some, spec_l01In_eq, decide_eq_true_eq]
  have no : (¬ ((0 ≤ a1 ∧ a1 ≤ 65535) ∧ (1 ≤ a2 ∧ a2 ≤ 400))) → Ev (fun k => spec_PacketsOf.j0 k l a1 a2 [] true) (pkV l a1 a2) := by
    intro h
    rw [pkV, if_neg (fun hh => h ⟨hh.1, hh.2.1⟩)]
    exact Ev.step (fun k => by rw [spec_PacketsOf.j0, if_pos rfl]) (Ev.some _)
  refine Ev.ite (fun h1 => ?_) (fun h1 => no (fun h => h1 h.1))
  by_cases h2 : 1 ≤ a2 ∧ a2 ≤ 400
  · rw [decide_eq_true h2]
    refine Ev.step (fun k => by rw [Bool.not_true, spec_PacketsOf.j0, if_neg (by decide)]) ?_
    refine Ev.bind (spec_Framed_ev l hs) ?_
    have hz := frmV_size l
    have no1 : (¬ ((frmV l).2 = true ∧ (frmV l).1.size ≠ 0 ∧ ((frmV l).1.size + a2 - 1) / a2 ≤ 60)) → Ev (fun k => spec_PacketsOf.j1 k a1 a2 [] (frmV l).1 true) (pkV l a1 a2) := by
      intro h
      rw [pkV, if_neg (fun hh => h hh.2.2)]
      exact Ev.step (fun k => by rw [spec_PacketsOf.j1, if_pos rfl]) (Ev.some _)
    refine Ev.ite (fun h3 => Ev.ite (fun h4 => no1 (by omega)) (fun h4 => Ev.neg (by omega) ?_)) (fun h3 => no1 (fun h => h3 h.1))
    rw [w64 (e := ((frmV l).1.size : Int) + a2) (by omega) (by omega), w64 (e := ((frmV l).1.size : Int) + a2 - 1) (by omega) (by omega), tdiv_pos (by omega)]
    have hq := Int.ediv_le_self (a := ((frmV l).1.size : Int) + a2 - 1) a2 (by omega)
    have hq0 := Int.ediv_nonneg (a := ((frmV l).1.size : Int) + a2 - 1) (b := a2) (by omega) (by omega)
    rw [w64 (by omega) (by omega)]
    by_cases h5 : ((frmV l).1.size + a2 - 1) / a2 > 60
    · rw [decide_eq_true h5]; exact no1 (fun h => by omega)
    · rw [decide_eq_false h5, pkV, if_pos ⟨h1, h2, h3, by omega, by omega⟩]
      refine Ev.step (fun k => by rw [spec_PacketsOf.j1, if_neg (by decide)]) ?_
      exact spec_PacketsOf_loop _ a1 a2 hz h2.1 h2.2 60000 (by omega) 0 [] (by omega) (by simp) (by omega)
  · rw [decide_eq_false h2]; exact no (fun h => h2 h.2)
-- packets of a stream: impl
theorem impl_PacketsOf_loop (s : ByteArray) (a1 a2 : Int) (hs : s.size ≤ 60000) (h1 : 1 ≤ a2) (h2 : a2 ≤ 400) : ∀ m, m ≤ 60000 → ∀ (i : Int) (x : List S127), 0 ≤ i → x.length ≤ 60000 - m → (s.size : Int) - i ≤ m → Ev (fun k => impl_PacketsOf.l0 k a1 a2 x s i) (pkL s a1 a2 m i x, true) := by
  intro m
  induction m with
  | zero => intro _ i x h0 _ hm; exact Ev.step (f := fun _ => some (x, true)) (fun k => by rw [impl_PacketsOf.l0, if_neg (by omega)]) (Ev.some _)
  | succ m ih =>
    intro hm i x h0 hx hmi
    rw [pkL]
    by_cases hi : i < (s.size : Int)
    · rw [if_pos hi]
      have e := w64 (e := i + a2) (by omega) (by omega)
      have hmn := mn_le (i + a2) s.size
      refine Ev.step (fun k => by rw [impl_PacketsOf.l0, if_pos hi, e, impl_SeqPlus_eq, Option.bind_some]) ?_
      exact Ev.pos h0 (Ev.pos (by omega) (Ev.pos (by omega) (Ev.pos (by omega) (ih (by omega) _ _ (by omega) (by simp; omega) (by omega)))))
    · rw [if_neg hi]
      exact Ev.step (fun k => by rw [impl_PacketsOf.l0, if_neg hi]) (Ev.some _)
theorem impl_PacketsOf_ev (l : List ByteArray) (a1 a2 : Int) (hs : ∀ u ∈ l, u.size ≤ 9223372036854775807) : Ev (fun k => impl_PacketsOf.f k l a1 a2) (pkV l a1 a2) := by
  unfold impl_PacketsOf.f
  simp only [Option.bind_some, impl_isNumber_eq, impl_within_eq, decide_eq_true_eq]
  refine Ev.bind (impl_Framed_ev l hs) ?_
  have hz := frmV_size l
  have no : (¬ ((0 ≤ a1 ∧ a1 ≤ 65535) ∧ (1 ≤ a2 ∧ a2 ≤ 400) ∧ (frmV l).2 = true ∧ (frmV l).1.size ≠ 0 ∧ ((frmV l).1.size + a2 - 1) / a2 ≤ 60)) → Ev (fun k => impl_PacketsOf.j0 k a1 a2 [] (frmV l).1 true) (pkV l a1 a2) := by
    intro h
    rw [pkV, if_neg h]
    exact Ev.step (fun k => by rw [impl_PacketsOf.j0, if_pos rfl]) (Ev.some _)
  refine Ev.ite (fun h3 => Ev.ite (fun h4 => no (fun h => by rw [toList_nil] at h4; exact h.2.2.2.1 h4)) (fun h4 => Ev.ite (fun h1 => Ev.ite (fun h2 => Ev.neg (by omega) ?_) (fun h2 => no (fun h => h2 h.2.1))) (fun h1 => no (fun h => h1 h.1)))) (fun h3 => no (fun h => h3 h.2.2.1))
  rw [toList_nil] at h4
  rw [w64 (e := ((frmV l).1.size : Int) + a2) (by omega) (by omega), w64 (e := ((frmV l).1.size : Int) + a2 - 1) (by omega) (by omega), tdiv_pos (by omega)]
  have hq := Int.ediv_le_self (a := ((frmV l).1.size : Int) + a2 - 1) a2 (by omega)
  have hq0 := Int.ediv_nonneg (a := ((frmV l).1.size : Int) + a2 - 1) (b := a2) (by omega) (by omega)
  rw [w64 (by omega) (by omega)]
  by_cases h5 : ((frmV l).1.size + a2 - 1) / a2 > 60
  · rw [decide_eq_true h5]; exact no (fun h => by omega)
  · rw [decide_eq_false h5, pkV, if_pos ⟨h1, h2, h3, by omega, by omega⟩]
    refine Ev.step (fun k => by rw [impl_PacketsOf.j0, if_neg (by decide)]) ?_
    exact impl_PacketsOf_loop _ a1 a2 hz h2.1 h2.2 60000 (by omega) 0 [] (by omega) (by simp) (by omega)
-- strings: bulk, copies
theorem laws_szStringS_loop (l : List ByteArray) (hl : l.length ≤ 9223372036854775806) (hs : ∀ u ∈ l, u.size ≤ 9223372036854775807) : ∀ i, i ≤ l.length → ∀ n : Int, 0 ≤ n → n ≤ 1048576 → ∃ t, Ev (fun k => laws_szStringS.l0 k l n i) t ∧ t ≤ n := by
  refine down_to _ ?_ ?_
  · intro n h0 h1
    exact ⟨n, Ev.step (fun k => by rw [laws_szStringS.l0, if_neg (by omega)]) (Ev.some n), by omega⟩
  · intro i hi ih n h0 h1
    have hz := hs _ (List.getElem_mem hi)
    have e := w64 (e := n - (l[i].size : Int)) (by omega) (by omega)
    by_cases h : n - (l[i].size : Int) < 0
    · exact ⟨-1, Ev.step (fun k => by rw [laws_szStringS.l0, if_pos (by omega), if_pos (by omega), rdS l i hi, e, if_pos h]) (Ev.some _), by omega⟩
    · obtain ⟨t, ht, hle⟩ := ih (n - l[i].size) (by omega) (by omega)
      exact ⟨t, Ev.step (fun k => by rw [laws_szStringS.l0, if_pos (by omega), if_pos (by omega), rdS l i hi, e, if_neg h, w64_succ hi (by omega)]) ht, by omega⟩
theorem laws_szStringS_ev (l : List ByteArray) (hl : l.length ≤ 9223372036854775806) (hs : ∀ u ∈ l, u.size ≤ 9223372036854775807) (n : Int) (h0 : 0 ≤ n) (h1 : n ≤ 1048576) : ∃ t, Ev (fun k => laws_szStringS.f k l n) t ∧ (0 ≤ t → l.length ≤ n) ∧ t ≤ n := by
  unfold laws_szStringS.f
  rw [w64 (by omega) (by omega)]
  by_cases h : n - l.length < 0
  · exact ⟨-1, by simp only [if_pos h]; exact Ev.some _, by omega, by omega⟩
  · obtain ⟨t, ht, hle⟩ := laws_szStringS_loop l hl hs 0 (by omega) (n - l.length) (by omega) (by omega)
    exact ⟨t, by simp only [if_neg h]; exact ht, by omega, by omega⟩
theorem laws_toStringS_ev (l : List ByteArray) (hl : l.length ≤ 17592186044416) : Ev (fun k => laws_toStringS.f k l) l := by
  unfold laws_toStringS.f
  simp only [if_pos (show (0 : Int) ≤ (l.length : Int) by omega), if_pos (show ((l.length : Int)).toNat ≤ 17592186044416 by omega)]
  have := map_loop l id (fun k o i => laws_toStringS.l0 k l o i) ?_ ?_ (List.replicate ((l.length : Int)).toNat (⟨#[]⟩ : ByteArray)) (by simp)
  · simpa using this
  · intro o ho
    exact Ev.step (fun k => by rw [laws_toStringS.l0, if_neg (by omega)]) (Ev.some o)
  · intro i hi o r ho h
    refine Ev.step (fun k => by rw [laws_toStringS.l0, if_pos (by omega), if_pos (by omega), if_pos (by omega), rdS l i hi, w64_succ hi (by omega), show ((i : Int)).toNat = i from by omega]; rfl) h
theorem laws_eqStringS_self (l : List ByteArray) (hl : l.length ≤ 9223372036854775806) : Ev (fun k => laws_eqStringS.f k l l) true := by
  unfold laws_eqStringS.f
  simp only [if_true]
  refine self_loop l.length (fun k i => laws_eqStringS.l0 k l l i) ?_ ?_
  · exact Ev.step (fun k => by rw [laws_eqStringS.l0, if_neg (by omega)]) (Ev.some _)
  · intro i hi h
    exact Ev.step (fun k => by rw [laws_eqStringS.l0, if_pos (by omega), if_pos (by omega), if_pos (by omega), if_pos rfl, w64_succ hi (by omega)]) h
-- marks of texts
def mtL : Nat → Int → ByteArray → ByteArray
  | 0, _, x => (⟨#[109]⟩ : ByteArray) ++ x
  | m + 1, v, x => if v > 0 then mtL m (v / 10) (strOfNums [(wrap64 (48 + Int.tmod v 10)) % 256] ++ x) else (⟨#[109]⟩ : ByteArray) ++ x
def mt (v : Int) : ByteArray := if v ≤ 0 then (⟨#[109, 48]⟩ : ByteArray) else mtL 64 v (⟨#[]⟩ : ByteArray)
theorem laws_markText_loop : ∀ m, m ≤ 64 → ∀ (v : Int) (x : ByteArray), v < 2 ^ m → v ≤ 9223372036854775807 → x.size ≤ 64 - m → Ev (fun k => laws_markText.l0 k v x) (mtL m v x) := by
  intro m
  induction m with
  | zero =>
    intro _ v x h0 _ hx
    rw [Int.pow_zero] at h0
    exact Ev.step (f := fun _ => some ((⟨#[109]⟩ : ByteArray) ++ x)) (fun k => by rw [laws_markText.l0, if_neg (by omega), if_pos (by omega)]) (Ev.some _)
  | succ m ih =>
    intro hm v x h0 h1 hx
    rw [mtL]
    by_cases hv : v > 0
    · rw [if_pos hv]
      have e : wrap64 (Int.tdiv v 10) = v / 10 := by rw [tdiv_pos (by omega), w64 (by omega) (by omega)]
      refine Ev.step (fun k => by rw [laws_markText.l0, if_pos hv, Option.bind_some, if_pos (by rw [strN_size]; simp; omega), e]) ?_
      refine ih (by omega) _ _ ?_ (by omega) (by rw [ByteArray.size_append, strN_size]; simp; omega)
      rw [Int.pow_succ] at h0
      omega
    · rw [if_neg hv]
      exact Ev.step (fun k => by rw [laws_markText.l0, if_neg hv, if_pos (by omega)]) (Ev.some _)
theorem laws_markText_ev (v : Int) (h : v ≤ 9223372036854775807) : Ev (fun k => laws_markText.f k v) (mt v) := by
  unfold laws_markText.f mt
  refine Ev.ite (fun h0 => ?_) (fun h0 => ?_)
  · rw [if_pos h0]; exact Ev.some _
  · rw [if_neg h0]; exact laws_markText_loop 64 (by omega) v _ (by omega) h (by simp [ByteArray.size])
-- marks of rows of texts
def mkS (v : Int) (n : Nat) : List ByteArray := (List.range n).map fun j => mt (v + ((j : Nat) : Int))
theorem mkS_length (v : Int) (n : Nat) : (mkS v n).length = n := by simp [mkS]
theorem mkS_succ (v : Int) (n : Nat) : mkS v (n + 1) = mkS v n ++ [mt (v + (n : Int))] := by simp [mkS, List.range_succ]
theorem laws_markStringS_ev (l : List ByteArray) (v : Int) (h0 : 0 ≤ v) (h1 : v + l.length ≤ 4611686018427387904) : Ev (fun k => laws_markStringS.f k l v) (v + l.length, mkS v l.length) := by
  unfold laws_markStringS.f
  have key : ∀ i, i ≤ l.length → Ev (fun k => laws_markStringS.l0 k (mkS v i ++ l.drop i) (v + i) i) (v + l.length, mkS v l.length) := by
    refine down_to _ ?_ ?_
    · refine Ev.step (f := fun _ => some (v + (l.length : Int), mkS v l.length)) (fun k => by rw [laws_markStringS.l0, if_neg (by simp [mkS_length])]; simp) (Ev.some _)
    · intro i hi ih
      have hl : (mkS v i ++ l.drop i).length = l.length := by rw [List.length_append, mkS_length, List.length_drop]; omega
      have hs : (mkS v i ++ l.drop i).set i (mt (v + i)) = mkS v (i + 1) ++ l.drop (i + 1) := by
        rw [List.set_append_right _ _ (by rw [mkS_length]; omega), mkS_length, Nat.sub_self, List.drop_eq_getElem_cons hi, List.set_cons_zero, mkS_succ]
        simp
      refine Ev.step (fun k => by rw [laws_markStringS.l0, hl, if_pos (by omega)]) ?_
      refine Ev.bind (laws_markText_ev (v + i) (by omega)) (Ev.pos (by omega) ?_)
      rw [Int.toNat_natCast, hs, w64 (e := v + i + 1) (by omega) (by omega), w64_succ hi (by omega), show v + (i : Int) + 1 = v + ((i + 1 : Nat) : Int) by omega]
      exact ih
  simpa [mkS] using key 0 (by omega)
-- marks of packets
def mkP1 (v : Int) : S127 := ⟨v, ((Int.tmod (v + 1) 3) == 0), ((Int.tmod (v + 2) 3) == 0), mt (v + 3)⟩
def mkP (v : Int) (n : Nat) : List S127 := (List.range n).map fun j => mkP1 (v + 4 * ((j : Nat) : Int))
theorem mkP_length (v : Int) (n : Nat) : (mkP v n).length = n := by simp [mkP]
theorem mkP_succ (v : Int) (n : Nat) : mkP v (n + 1) = mkP v n ++ [mkP1 (v + 4 * (n : Int))] := by simp [mkP, List.range_succ]
theorem rdP_set (l : List S127) (i : Nat) (x : S127) (h : i < l.length) : rd_T127 (l.set i x) i = x := by
  rw [rdP _ _ (by simpa using h)]; simp
theorem laws_markPacketS_ev (l : List S127) (v : Int) (h0 : 0 ≤ v) (h1 : v + 4 * l.length ≤ 4611686018427387904) : Ev (fun k => laws_markPacketS.f k l v) (v + 4 * l.length, mkP v l.length) := by
  unfold laws_markPacketS.f
  have key : ∀ i, i ≤ l.length → Ev (fun k => laws_markPacketS.l0 k (mkP v i ++ l.drop i) (v + 4 * i) i) (v + 4 * l.length, mkP v l.length) := by
    refine down_to _ ?_ ?_
    · refine Ev.step (f := fun _ => some (v + 4 * (l.length : Int), mkP v l.length)) (fun k => by rw [laws_markPacketS.l0, if_neg (by simp [mkP_length])]; simp) (Ev.some _)
    · intro i hi ih
      have hl : (mkP v i ++ l.drop i).length = l.length := by rw [List.length_append, mkP_length, List.length_drop]; omega
      have hs : (mkP v i ++ l.drop i).set i (mkP1 (v + 4 * i)) = mkP v (i + 1) ++ l.drop (i + 1) := by
        rw [List.set_append_right _ _ (by rw [mkP_length]; omega), mkP_length, Nat.sub_self, List.drop_eq_getElem_cons hi, List.set_cons_zero, mkP_succ]
        simp
      have e1 : wrap64 (v + 4 * (i : Int) + 1) = v + 4 * i + 1 := w64 (by omega) (by omega)
      have e2 : wrap64 (v + 4 * (i : Int) + 1 + 1) = v + 4 * i + 2 := by rw [w64 (by omega) (by omega)]; omega
      have e3 : wrap64 (v + 4 * (i : Int) + 2 + 1) = v + 4 * i + 3 := by rw [w64 (by omega) (by omega)]; omega
      have e4 : wrap64 (v + 4 * (i : Int) + 3 + 1) = v + 4 * ((i + 1 : Nat) : Int) := by rw [w64 (by omega) (by omega)]; omega
      refine Ev.step (fun k => by rw [laws_markPacketS.l0, hl, if_pos (by omega), if_pos (by omega), e1, e2, e3, e4, w64_succ hi (by omega), Int.toNat_natCast]) ?_
      simp only [Option.bind_some]
      refine Ev.bind (laws_markText_ev (v + 4 * i + 3) (by omega)) ?_
      rw [rdP_set _ _ _ (by omega)]
      simp only [List.set_set]
      rw [rdP_set _ _ _ (by omega)]
      simp only [List.set_set]
      rw [rdP_set _ _ _ (by omega)]
      simp only [List.set_set]
      have := ih
      rw [← hs] at this
      exact this
  simpa [mkP] using key 0 (by omega)
theorem laws_heldPacketS_ev (n : Nat) (v : Int) (h0 : 0 ≤ v) (h1 : v + 4 * n ≤ 4611686018427387904) : Ev (fun k => laws_heldPacketS.f k (mkP v n) v) (v + 4 * n) := by
  unfold laws_heldPacketS.f
  have key : ∀ i, i ≤ n → Ev (fun k => laws_heldPacketS.l0 k (mkP v n) (v + 4 * i) i) (v + 4 * n) := by
    refine down_to _ ?_ ?_
    · refine Ev.step (f := fun _ => some (v + 4 * (n : Int))) (fun k => by rw [laws_heldPacketS.l0, mkP_length, if_neg (by omega)]) (Ev.some _)
    · intro i hi ih
      have hr : rd_T127 (mkP v n) i = mkP1 (v + 4 * i) := by rw [rdP _ _ (by rw [mkP_length]; exact hi)]; simp [mkP]
      have e1 : wrap64 (v + 4 * (i : Int) + 1) = v + 4 * i + 1 := w64 (by omega) (by omega)
      have e2 : wrap64 (v + 4 * (i : Int) + 1 + 1) = v + 4 * i + 2 := by rw [w64 (by omega) (by omega)]; omega
      have e3 : wrap64 (v + 4 * (i : Int) + 2 + 1) = v + 4 * i + 3 := by rw [w64 (by omega) (by omega)]; omega
      have e4 : wrap64 (v + 4 * (i : Int) + 3 + 1) = v + 4 * ((i + 1 : Nat) : Int) := by rw [w64 (by omega) (by omega)]; omega
      refine Ev.step (fun k => by rw [laws_heldPacketS.l0, mkP_length, if_pos (by omega), if_pos (by omega), hr, if_pos (show (mkP1 (v + 4 * (i : Int))).f0 = v + 4 * (i : Int) from rfl), e1, e2, e3, e4, w64_succ hi (by omega)]) ?_
      simp only [mkP1, bne_self_eq_false, Bool.false_eq_true, if_false]
      refine Ev.bind (laws_markText_ev (v + 4 * i + 3) (by omega)) (Ev.pos rfl ?_)
      exact ih
  simpa using key 0 (by omega)
-- LAW FnExactPacketsOf
theorem FnExactPacketsOf (l0 : List ByteArray) (a1 a2 : Int) (m0 : l0.length ≤ maxLen) (o0 : ∀ x ∈ l0, x.size ≤ maxLen) : ∃ k, laws_FnExactPacketsOf.f k l0 a1 a2 = some true := by
  refine Ev.rounds (g := fun k => laws_FnExactPacketsOf.f k l0 a1 a2) ?_
  unfold laws_FnExactPacketsOf.f
  simp only [maxLen] at m0 o0
  by_cases hl : l0.length ≤ 9223372036854775806
  · obtain ⟨t, ht, h1, h2⟩ := laws_szStringS_ev l0 hl (fun u hu => by have := o0 u hu; omega) 1048576 (by omega) (by omega)
    refine Ev.bind ht (Ev.ite (fun _ => Ev.some _) (fun h => ?_))
    have h3 := h1 (by omega)
    have hs : ∀ u ∈ l0, u.size ≤ 9223372036854775807 := fun u hu => by have := o0 u hu; omega
    have e0 := laws_toStringS_ev l0 (by omega)
    have e1 := spec_PacketsOf_ev l0 a1 a2 hs
    have e2 := impl_PacketsOf_ev l0 a1 a2 hs
    have hp := pkV_length l0 a1 a2
    have e3 := laws_eqPacketS_self (pkV l0 a1 a2).1 (by omega)
    have e4 := laws_markPacketS_ev (pkV l0 a1 a2).1 1 (by omega) (by omega)
    have e5 := laws_heldPacketS_ev (pkV l0 a1 a2).1.length 1 (by omega) (by omega)
    generalize pkV l0 a1 a2 = p at *
    refine Ev.bind e0 (Ev.bind e1 (Ev.bind e0 (Ev.bind e2 (Ev.bind e3 ?_))))
    simp only [if_true, bne_self_eq_false]
    refine Ev.step (fun k => by rw [laws_FnExactPacketsOf.j0, if_neg (by decide)]) ?_
    refine Ev.bind e0 (Ev.bind (laws_eqStringS_self l0 hl) ?_)
    simp only [if_true]
    refine Ev.bind (laws_markStringS_ev l0 1 (by omega) (by omega)) (Ev.neg (by simp only []; omega) (Ev.bind e3 ?_))
    simp only [if_true, bne_self_eq_false]
    refine Ev.step (fun k => by rw [laws_FnExactPacketsOf.j1, if_neg (by decide)]) ?_
    refine Ev.bind e4 (Ev.bind e5 (Ev.neg (by omega) (Ev.pos rfl (Ev.bind e0 (Ev.bind e2 (Ev.bind e3 ?_))))))
    simp only [if_true, bne_self_eq_false]
    refine Ev.step (fun k => by rw [laws_FnExactPacketsOf.j2, if_neg (by decide)]) ?_
    exact Ev.bind e5 (Ev.neg (by omega) (Ev.pos rfl (Ev.some _)))
  · have e : Ev (fun k => laws_szStringS.f k l0 1048576) (-1) := by
      unfold laws_szStringS.f
      rw [w64 (by omega) (by omega)]
      exact Ev.pos (by omega) (Ev.some _)
    exact Ev.bind e (Ev.pos (by omega) (Ev.some _))

end Go.Proofs.Ytlfbcmhjopichaa.Pure
