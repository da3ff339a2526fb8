/- The pure statement of the law FnExactQueueHas: over numbers and lists alone, the printed function answers true. Conditions: none beyond the sizes of what a machine holds. -/
import Derived.Test.YtfbifogoheajmaaQFnExactQueueHasx6
import Derived.Laws.BitsLemmas
namespace Go.Proofs.Ytfbifogoheajmaa.Pure
open Go.RowKit Go.Proofs.Ytfbifogoheajmaa.QFnExactQueueHas Go.Proofs.YtfbifogoheajmaaW.PrintWords Go.Proofs.YtfbifogoheajmaaW.PrintLast Go.Proofs.YtfbifogoheajmaaW.PrintMore
set_option linter.unusedVariables false
set_option linter.unusedSimpArgs false

-- base: whole numbers
theorem wf64 {n : Int} (h : (Lit.int .i64 n).wf = true) : -9223372036854775808 ≤ n ∧ n ≤ 9223372036854775807 := by
  simp [Lit.wf, IntKind.min, IntKind.max, IntKind.signed, IntKind.bits] at h
  omega
theorem w64 {e : Int} (h1 : -9223372036854775808 ≤ e) (h2 : e ≤ 9223372036854775807) : wrap64 e = e := by unfold wrap64; omega
theorem tmod_pos {a b : Int} (h : 0 ≤ a) : Int.tmod a b = a % b := Int.tmod_eq_emod_of_nonneg h
theorem tdiv_pos {a b : Int} (h : 0 ≤ a) : Int.tdiv a b = a / b := Int.tdiv_eq_ediv_of_nonneg h
theorem w64_wf (e : Int) : -9223372036854775808 ≤ wrap64 e ∧ wrap64 e ≤ 9223372036854775807 := by unfold wrap64; omega
-- base: rounds
theorem Ev.mk_ {α : Type} {g : Nat → Option α} {r : α} (K : Nat) (h : ∀ k, K ≤ k → g k = some r) : Ev g r := ⟨K, h⟩
theorem Ev.succ {α : Type} {g : Nat → Option α} {r : α} (h : ∀ k, g (k + 1) = some r) : Ev g r := ⟨1, fun k hk => by obtain ⟨m, rfl⟩ : ∃ m, k = m + 1 := ⟨k - 1, by omega⟩; exact h m⟩
theorem Ev.some {α : Type} (r : α) : Ev (fun _ => Option.some r) r := ⟨0, fun _ _ => rfl⟩
theorem Ev.const {α : Type} {o : Option α} {r : α} (h : o = Option.some r) : Ev (fun _ => o) r := ⟨0, fun _ _ => h⟩
theorem Ev.ite {α : Type} {c : Prop} [Decidable c] {g f : Nat → Option α} {r : α} (h1 : c → Ev g r) (h2 : ¬ c → Ev f r) : Ev (fun k => if c then g k else f k) r := by
  by_cases h : c
  · simpa only [if_pos h] using h1 h
  · simpa only [if_neg h] using h2 h
theorem Ev.pos {α : Type} {c : Prop} [Decidable c] {g f : Nat → Option α} {r : α} (hc : c) (h : Ev g r) : Ev (fun k => if c then g k else f k) r := by
  simpa only [if_pos hc] using h
theorem Ev.neg {α : Type} {c : Prop} [Decidable c] {g f : Nat → Option α} {r : α} (hc : ¬ c) (h : Ev f r) : Ev (fun k => if c then g k else f k) r := by
  simpa only [if_neg hc] using h
theorem Ev.bindc {α β : Type} {o : Option α} {f : Nat → α → Option β} {a : α} {r : β} (h : o = Option.some a) (k : Ev (fun n => f n a) r) : Ev (fun n => o.bind (f n)) r := by
  subst h; exact k
-- within
theorem impl_within_eq (a b c : Int) : impl_within.f a b c = some (decide (b ≤ a ∧ a ≤ c)) := by
  unfold impl_within.f
  by_cases h : a ≥ b
  · rw [if_pos h]; simp [show b ≤ a from h]
  · rw [if_neg h]; simp; omega
-- l01In
theorem spec_l01In_eq (a b c : Int) : spec_l01In.f a b c = some (decide (b ≤ a ∧ a ≤ c)) := by
  unfold spec_l01In.f
  by_cases h : a ≥ b
  · rw [if_pos h]; simp [show b ≤ a from h]
  · rw [if_neg h]; simp; omega
-- isNumber
theorem impl_isNumber_eq (a : Int) : impl_isNumber.f a = some (decide (0 ≤ a ∧ a ≤ 65535)) := by
  unfold impl_isNumber.f; rw [impl_within_eq]; rfl
-- SeqGap value
def seqGap (a b : Int) : Int := if 0 ≤ a ∧ a ≤ 65535 ∧ 0 ≤ b ∧ b ≤ 65535 then (if b - a > 32767 then b - a - 65536 else if b - a < -32768 then b - a + 65536 else b - a) else 0
-- SeqGap impl
theorem impl_SeqGap_eq (k : Nat) (a b : Int) : impl_SeqGap.f (k + 1) a b = some (seqGap a b) := by
  unfold impl_SeqGap.f seqGap
  rw [impl_isNumber_eq, impl_isNumber_eq]
  by_cases h1 : 0 ≤ a ∧ a ≤ 65535
  · by_cases h2 : 0 ≤ b ∧ b ≤ 65535
    · simp only [h1, h2, and_self, decide_true, Option.bind_some, if_true, impl_SeqGap.j0, Bool.not_true]
      have e : Int.tmod (wrap64 (wrap64 (b - a) + 65536)) 65536 = (b - a + 65536) % 65536 := by
        rw [w64 (e := b - a) (by omega) (by omega), w64 (by omega) (by omega), tmod_pos (by omega)]
      rw [e, w64 (by omega) (by omega)]
      rw [if_neg (by decide)]
      by_cases h3 : b - a > 32767
      · rw [if_pos h3, if_pos (by omega)]; congr 1; omega
      · rw [if_neg h3]
        by_cases h4 : b - a < -32768
        · rw [if_pos h4, if_neg (by omega)]; congr 1; omega
        · rw [if_neg h4]
          by_cases h5 : 0 ≤ b - a
          · rw [if_neg (by omega)]; congr 1; omega
          · rw [if_pos (by omega)]; congr 1; omega
    · rw [if_neg (fun h => h2 h.2.2)]
      simp [h1, h2, impl_SeqGap.j0]
  · rw [if_neg (fun h => h1 ⟨h.1, h.2.1⟩)]
    simp [h1, impl_SeqGap.j0]
theorem impl_SeqGap_ev (a b : Int) : Ev (fun k => impl_SeqGap.f k a b) (seqGap a b) := Ev.succ fun k => impl_SeqGap_eq k a b
-- SeqGap spec
theorem spec_SeqGap_eq (k : Nat) (a b : Int) : spec_SeqGap.f (k + 1) a b = some (seqGap a b) := by
  unfold spec_SeqGap.f seqGap
  rw [spec_l01In_eq, spec_l01In_eq]
  by_cases h1 : 0 ≤ a ∧ a ≤ 65535
  · by_cases h2 : 0 ≤ b ∧ b ≤ 65535
    · simp only [h1, h2, and_self, decide_true, Option.bind_some, if_true, spec_SeqGap.j0, Bool.not_true]
      have e : wrap64 (b - a) = b - a := w64 (by omega) (by omega)
      have e1 : wrap64 (b - a - 65536) = b - a - 65536 := w64 (by omega) (by omega)
      have e2 : wrap64 (b - a + 65536) = b - a + 65536 := w64 (by omega) (by omega)
      rw [e, e1, e2, if_neg (by decide)]
      by_cases h3 : b - a > 32767
      · rw [if_pos h3, if_pos h3, if_neg (by omega)]
      · rw [if_neg h3, if_neg h3]
        by_cases h4 : b - a < -32768
        · rw [if_pos h4, if_pos h4]
        · rw [if_neg h4, if_neg h4]
    · rw [if_neg (fun h => h2 h.2.2)]
      simp [h1, h2, spec_SeqGap.j0]
  · rw [if_neg (fun h => h1 ⟨h.1, h.2.1⟩)]
    simp [h1, spec_SeqGap.j0]
theorem spec_SeqGap_ev (a b : Int) : Ev (fun k => spec_SeqGap.f k a b) (seqGap a b) := Ev.succ fun k => spec_SeqGap_eq k a b
-- lists: rd and drop
theorem rd_drop (l : List Int) (i : Nat) (h : i < l.length) : l.drop i = rd l i :: l.drop (i + 1) := by
  rw [List.drop_eq_getElem_cons h]
  congr 1
  simp [rd, List.getD_eq_getElem?_getD, List.getElem?_eq_getElem h]
theorem w64_succ {i n : Nat} (h : i < n) (hn : n ≤ 9223372036854775807) : wrap64 ((i : Int) + 1) = ((i + 1 : Nat) : Int) := by
  rw [w64 (by omega) (by omega)]; omega
-- PacketOk value
def packetOk (s : Int) (b : ByteArray) : Bool := decide (0 ≤ s ∧ s ≤ 65535 ∧ 1 ≤ b.size ∧ b.size ≤ 400)
theorem packetOk_iff (s : Int) (b : ByteArray) : packetOk s b = true ↔ 0 ≤ s ∧ s ≤ 65535 ∧ 1 ≤ b.size ∧ b.size ≤ 400 := by simp [packetOk]
-- PacketOk impl
theorem impl_PacketOk_eq (s : Int) (f l : Bool) (b : ByteArray) : impl_PacketOk.f s f l b = some (packetOk s b) := by
  unfold impl_PacketOk.f packetOk
  simp only [impl_isNumber_eq, impl_within_eq, Option.bind_some, decide_eq_true_eq]
  split
  · congr 1; rw [decide_eq_decide]; omega
  · congr 1; symm; rw [decide_eq_false_iff_not]; omega
-- PacketOk spec
theorem spec_PacketOk_eq (s : Int) (f l : Bool) (b : ByteArray) : spec_PacketOk.f s f l b = some (packetOk s b) := by
  unfold spec_PacketOk.f packetOk
  simp only [spec_l01In_eq, Option.bind_some, decide_eq_true_eq]
  split
  · congr 1; rw [decide_eq_decide]; omega
  · congr 1; symm; rw [decide_eq_false_iff_not]; omega
-- szPacket
theorem laws_szPacket_eq (s : Int) (f l : Bool) (b : ByteArray) (n : Int) (h0 : 0 ≤ n) (h1 : n ≤ 1048576) (hb : b.size ≤ 9223372036854775807) :
    laws_szPacket.f s f l b n = some (if n < b.size then -1 else n - b.size) := by
  unfold laws_szPacket.f
  rw [w64 (by omega) (by omega)]
  split
  · rw [if_pos (by omega)]
  · rw [if_neg (by omega)]
-- eqPacket
theorem laws_eqPacket_self (s : Int) (f l : Bool) (b : ByteArray) : laws_eqPacket.f s f l b s f l b = some true := by
  simp [laws_eqPacket.f]
-- downwards
theorem down_to {P : Nat → Prop} (n : Nat) (h0 : P n) (hs : ∀ i, i < n → P (i + 1) → P i) : ∀ i, i ≤ n → P i := by
  have key : ∀ d i, n - i = d → i ≤ n → P i := by
    intro d
    induction d with
    | zero => intro i hd hi; obtain rfl : i = n := by omega
              exact h0
    | succ d ih => intro i hd hi; exact hs i (by omega) (ih (i + 1) (by omega) (by omega))
  exact fun i hi => key (n - i) i rfl hi
-- loops that fill and loops that compare
theorem map_loop {α β : Type} (l : List β) (f : β → α) (L : Nat → List α → Nat → Option (List α)) (h0 : ∀ o : List α, o.length = l.length → Ev (fun k => L k o l.length) o)
    (hs : ∀ (i : Nat) (hi : i < l.length) (o : List α) (r : List α), o.length = l.length → Ev (fun k => L k (o.set i (f l[i])) (i + 1)) r → Ev (fun k => L k o i) r) (o : List α) (ho : o.length = l.length) : Ev (fun k => L k o 0) (l.map f) := by
  have key : ∀ i, i ≤ l.length → ∀ o : List α, o.length = l.length → Ev (fun k => L k o i) (o.take i ++ (l.drop i).map f) := by
    refine down_to _ ?_ ?_
    · intro o ho
      rw [List.take_of_length_le (by omega), List.drop_eq_nil_of_le (Nat.le_refl _), List.map_nil, List.append_nil]
      exact h0 o ho
    · intro i hi ih o ho
      refine hs i hi o _ ho ?_
      have := ih (o.set i (f l[i])) (by simpa using ho)
      rw [List.take_succ_eq_append_getElem (by simp; omega)] at this
      rw [List.drop_eq_getElem_cons hi, List.map_cons]
      simpa [List.take_set_of_le] using this
  simpa using key 0 (by omega) o ho
theorem self_loop (n : Nat) (L : Nat → Nat → Option Bool) (h0 : Ev (fun k => L k n) true) (hs : ∀ i, i < n → Ev (fun k => L k (i + 1)) true → Ev (fun k => L k i) true) : Ev (fun k => L k 0) true :=
  down_to (P := fun i => Ev (fun k => L k i) true) n h0 hs 0 (by omega)
-- packets: rows
theorem rdP_laws (l : List S165) (i : Nat) (h : i < l.length) : rd_T165 l i = l[i] := by
  simp [rd_T165, List.getD_eq_getElem?_getD, List.getElem?_eq_getElem h]
theorem rdP (l : List S123) (i : Nat) (h : i < l.length) : rd_T123 l i = l[i] := by
  simp [rd_T123, List.getD_eq_getElem?_getD, List.getElem?_eq_getElem h]
def toP (x : S165) : S123 := ⟨x.f0, x.f1, x.f2, x.f3⟩
-- szPacketS
theorem laws_szPacketS_loop (l : List S165) (hl : l.length ≤ 9223372036854775806) (hs : ∀ x ∈ l, x.f3.size ≤ 9223372036854775807) : ∀ i, i ≤ l.length → ∀ n : Int, 0 ≤ n → n ≤ 1048576 → ∃ t, Ev (fun k => laws_szPacketS.l0 k l n i) t ∧ t ≤ n := by
  refine down_to _ ?_ ?_
  · intro n h0 h1
    exact ⟨n, Ev.step (fun k => by rw [laws_szPacketS.l0, if_neg (by omega)]) (Ev.some n), by omega⟩
  · intro i hi ih n h0 h1
    have e := laws_szPacket_eq l[i].f0 l[i].f1 l[i].f2 l[i].f3 n h0 h1 (hs _ (List.getElem_mem hi))
    by_cases h : n < l[i].f3.size
    · refine ⟨-1, Ev.step (fun k => by rw [laws_szPacketS.l0, if_pos (by omega), if_pos (by omega), rdP_laws l i hi, e, Option.bind_some, if_pos h]) (Ev.pos (by omega) (Ev.some _)), by omega⟩
    · obtain ⟨t, ht, hle⟩ := ih (n - l[i].f3.size) (by omega) (by omega)
      refine ⟨t, Ev.step (fun k => by rw [laws_szPacketS.l0, if_pos (by omega), if_pos (by omega), rdP_laws l i hi, e, Option.bind_some, if_neg h, w64_succ hi (by omega)]) (Ev.neg (by omega) ht), by omega⟩
theorem laws_szPacketS_ev (l : List S165) (hl : l.length ≤ 9223372036854775806) (hs : ∀ x ∈ l, x.f3.size ≤ 9223372036854775807) (n : Int) (h0 : 0 ≤ n) (h1 : n ≤ 1048576) : ∃ t, Ev (fun k => laws_szPacketS.f k l n) t ∧ (0 ≤ t → l.length ≤ n) ∧ t ≤ n := by
  unfold laws_szPacketS.f
  rw [w64 (by omega) (by omega)]
  by_cases h : n - l.length < 0
  · exact ⟨-1, by simp only [if_pos h]; exact Ev.some _, by omega, by omega⟩
  · obtain ⟨t, ht, hle⟩ := laws_szPacketS_loop l hl hs 0 (by omega) (n - l.length) (by omega) (by omega)
    exact ⟨t, by simp only [if_neg h]; exact ht, by omega, by omega⟩
-- toPacketS
theorem laws_toPacketS_ev (l : List S165) (hl : l.length ≤ 8796093022208) : Ev (fun k => laws_toPacketS.f k l) (l.map toP) := by
  unfold laws_toPacketS.f
  simp only [if_pos (show (0 : Int) ≤ (l.length : Int) by omega), if_pos (show ((l.length : Int)).toNat ≤ 8796093022208 by omega)]
  refine map_loop l toP (fun k o i => laws_toPacketS.l0 k l o i) ?_ ?_ _ (by simp)
  · intro o ho
    exact Ev.step (fun k => by rw [laws_toPacketS.l0, if_neg (by omega)]) (Ev.some o)
  · intro i hi o r ho h
    refine Ev.step (fun k => by rw [laws_toPacketS.l0, if_pos (by omega), if_pos (by omega), laws_toPacket.f, Option.bind_some, if_pos (by omega), rdP_laws l i hi, w64_succ hi (by omega), show ((i : Int)).toNat = i from by omega]; rfl) h
-- eqPacketS
theorem laws_eqPacketS_self (l : List S123) (hl : l.length ≤ 9223372036854775806) : Ev (fun k => laws_eqPacketS.f k l l) true := by
  unfold laws_eqPacketS.f
  simp only [if_true]
  refine self_loop l.length (fun k i => laws_eqPacketS.l0 k l l i) ?_ ?_
  · exact Ev.step (fun k => by rw [laws_eqPacketS.l0, if_neg (by omega)]) (Ev.some _)
  · intro i hi h
    exact Ev.step (fun k => by rw [laws_eqPacketS.l0, if_pos (by omega), if_pos (by omega), if_pos (by omega), laws_eqPacket_self, Option.bind_some, if_pos rfl, w64_succ hi (by omega)]) h
-- counts
def cnt (n : Int) : Bool := decide (0 ≤ n ∧ n ≤ 1000000000)
-- queues: right ones
def heldOk (next : Int) : Int → List S123 → Bool
  | _, [] => true
  | last, p :: r => packetOk p.f0 p.f3 && decide (last < seqGap next p.f0 ∧ seqGap next p.f0 < 40) && heldOk next (seqGap next p.f0) r
def queueOk (b : Bool) (n a : Int) (l : List S123) (c1 c2 c3 c4 c5 : Int) : Bool :=
  if b = true then decide (0 ≤ n ∧ n ≤ 65535 ∧ 0 ≤ a ∧ a ≤ 20 ∧ l.length ≤ 24) && heldOk n (-1) l && (cnt c1 && cnt c2 && cnt c3 && cnt c4 && cnt c5)
  else decide (n = 0 ∧ a = 0 ∧ l.length = 0 ∧ c1 = 0 ∧ c2 = 0 ∧ c3 = 0 ∧ c4 = 0 ∧ c5 = 0)
theorem rdP_drop (l : List S123) (i : Nat) (h : i < l.length) : l.drop i = rd_T123 l i :: l.drop (i + 1) := by
  rw [List.drop_eq_getElem_cons h, rdP l i h]
theorem seqGap_bounds (a b : Int) : -32768 ≤ seqGap a b ∧ seqGap a b ≤ 32767 := by
  unfold seqGap
  repeat' split
  all_goals omega
-- spec l23Count
theorem spec_l23Count_eq (n : Int) : spec_l23Count.f n = some (cnt n) := by
  unfold spec_l23Count.f cnt
  rw [spec_l01In_eq]; rfl
-- spec QueueOk
theorem spec_QueueOk_loop (b : Bool) (n a : Int) (l : List S123) (hl : l.length ≤ 24) (c1 c2 c3 c4 c5 : Int) : ∀ i, i ≤ l.length → ∀ last : Int, Ev (fun k => spec_QueueOk.l0 k last i b n a l c1 c2 c3 c4 c5) (heldOk n last (l.drop i) && (cnt c1 && cnt c2 && cnt c3 && cnt c4 && cnt c5)) := by
  refine down_to _ ?_ ?_
  · intro last
    refine Ev.step (fun k => by rw [spec_QueueOk.l0, if_neg (by omega)]) ?_
    rw [List.drop_eq_nil_of_le (Nat.le_refl _)]
    simp only [heldOk, spec_l23Count_eq, Option.bind_some]
    refine Ev.const ?_
    cases cnt c1 <;> cases cnt c2 <;> cases cnt c3 <;> cases cnt c4 <;> cases cnt c5 <;> rfl
  · intro i hi ih last
    refine Ev.step (fun k => by rw [spec_QueueOk.l0, if_pos (by omega), if_pos (by omega)]) ?_
    rw [rdP_drop l i hi]
    refine Ev.bind (spec_SeqGap_ev _ _) ?_
    simp only [spec_PacketOk_eq, Option.bind_some, heldOk]
    cases hp : packetOk (rd_T123 l i).f0 (rd_T123 l i).f3
    · simpa using Ev.some false
    · simp only [if_true]
      refine Ev.ite (fun h => ?_) (fun h => ?_)
      · simpa [show ¬ last < seqGap n (rd_T123 l i).f0 by omega] using Ev.some false
      · refine Ev.ite (fun h2 => ?_) (fun h2 => ?_)
        · simpa [show ¬ seqGap n (rd_T123 l i).f0 < 40 by omega] using Ev.some false
        · rw [w64_succ hi (by omega)]
          simpa [show last < seqGap n (rd_T123 l i).f0 by omega, show seqGap n (rd_T123 l i).f0 < 40 by omega] using ih (seqGap n (rd_T123 l i).f0)
theorem spec_QueueOk_ev (b : Bool) (n a : Int) (l : List S123) (c1 c2 c3 c4 c5 : Int) (hl : l.length ≤ 9223372036854775806) : Ev (fun k => spec_QueueOk.f k b n a l c1 c2 c3 c4 c5) (queueOk b n a l c1 c2 c3 c4 c5) := by
  unfold spec_QueueOk.f queueOk
  cases b
  · simp only [Bool.false_eq_true, if_false]
    refine Ev.const ?_
    repeat' split
    all_goals first | (simp_all; done) | (simp_all; rfl)
  · simp only [if_true, spec_l01In_eq, Option.bind_some, decide_eq_true_eq]
    refine Ev.ite (fun h1 => ?_) (fun h1 => ?_)
    · refine Ev.ite (fun h2 => ?_) (fun h2 => ?_)
      · by_cases h3 : l.length > 24
        · refine Ev.step (fun k => by rw [spec_QueueOk.j0, if_pos (by simp; omega)]) ?_
          simpa [show ¬ l.length ≤ 24 by omega] using Ev.some false
        · refine Ev.step (fun k => by rw [spec_QueueOk.j0, if_neg (by simp; omega)]) ?_
          have := spec_QueueOk_loop true n a l (by omega) c1 c2 c3 c4 c5 0 (by omega) (-1)
          simpa [h1, h2, show l.length ≤ 24 by omega] using this
      · refine Ev.step (fun k => by rw [spec_QueueOk.j0, if_pos rfl]) ?_
        have : ¬ (0 ≤ n ∧ n ≤ 65535 ∧ 0 ≤ a ∧ a ≤ 20 ∧ l.length ≤ 24) := by omega
        simpa [this] using Ev.some false
    · refine Ev.step (fun k => by rw [spec_QueueOk.j0, if_pos rfl]) ?_
      have : ¬ (0 ≤ n ∧ n ≤ 65535 ∧ 0 ≤ a ∧ a ≤ 20 ∧ l.length ≤ 24) := by omega
      simpa [this] using Ev.some false
-- impl QueueOk
theorem impl_QueueOk_counts (c1 c2 c3 c4 c5 : Int) : Ev (fun k => impl_QueueOk.l1 k [c1, c2, c3, c4, c5] (([c1, c2, c3, c4, c5] : List Int).length : Int) 0) (cnt c1 && cnt c2 && cnt c3 && cnt c4 && cnt c5) := by
  have key : ∀ i : Nat, i ≤ 5 → Ev (fun k => impl_QueueOk.l1 k [c1, c2, c3, c4, c5] (([c1, c2, c3, c4, c5] : List Int).length : Int) (i : Int)) ((([c1, c2, c3, c4, c5] : List Int).drop i).all cnt) := by
    refine down_to _ ?_ ?_
    · exact Ev.step (f := fun _ => some true) (fun k => by rw [impl_QueueOk.l1, if_neg (by simp)]) (Ev.some _)
    · intro i hi ih
      refine Ev.step (fun k => by rw [impl_QueueOk.l1, if_pos (by simp; omega), if_pos (by omega), if_pos (by simp; omega), impl_within_eq, Option.bind_some, w64_succ hi (by omega)]) ?_
      rw [rd_drop _ i (by simpa using hi), List.all_cons]
      refine Ev.ite (fun h => ?_) (fun h => ?_)
      · rw [show cnt (rd [c1, c2, c3, c4, c5] i) = true from h, Bool.true_and]; exact ih
      · rw [show cnt (rd [c1, c2, c3, c4, c5] i) = false from Bool.eq_false_iff.2 h, Bool.false_and]; exact Ev.some _
  have := key 0 (by omega)
  simpa [Bool.and_assoc] using this
theorem impl_QueueOk_loop (b : Bool) (n a : Int) (l : List S123) (hl : l.length ≤ 24) (c1 c2 c3 c4 c5 : Int) : ∀ i, i ≤ l.length → ∀ last : Int, -1 ≤ last → last ≤ 40 → Ev (fun k => impl_QueueOk.l0 k last l (l.length : Int) i b n a l c1 c2 c3 c4 c5) (heldOk n last (l.drop i) && (cnt c1 && cnt c2 && cnt c3 && cnt c4 && cnt c5)) := by
  refine down_to _ ?_ ?_
  · intro last _ _
    refine Ev.step (fun k => by rw [impl_QueueOk.l0, if_neg (by omega), Option.bind_some]) ?_
    rw [List.drop_eq_nil_of_le (Nat.le_refl _)]
    simp only [heldOk, Bool.true_and]
    exact impl_QueueOk_counts c1 c2 c3 c4 c5
  · intro i hi ih last h0 h1
    refine Ev.step (fun k => by rw [impl_QueueOk.l0, if_pos (by omega), if_pos (by omega), if_pos (by omega)]) ?_
    rw [rdP_drop l i hi]
    refine Ev.bind (impl_SeqGap_ev _ _) ?_
    simp only [impl_PacketOk_eq, Option.bind_some, heldOk, impl_within_eq]
    cases hp : packetOk (rd_T123 l i).f0 (rd_T123 l i).f3
    · simpa using Ev.some false
    · simp only [if_true, decide_eq_true_eq]
      rw [w64 (by omega) (by omega), w64_succ hi (by omega)]
      refine Ev.ite (fun h => ?_) (fun h => ?_)
      · simpa [show last < seqGap n (rd_T123 l i).f0 by omega, show seqGap n (rd_T123 l i).f0 < 40 by omega] using ih (seqGap n (rd_T123 l i).f0) (by omega) (by omega)
      · have : ¬ (last < seqGap n (rd_T123 l i).f0 ∧ seqGap n (rd_T123 l i).f0 < 40) := by omega
        simpa [this] using Ev.some false
theorem impl_QueueOk_ev (b : Bool) (n a : Int) (l : List S123) (c1 c2 c3 c4 c5 : Int) (hl : l.length ≤ 9223372036854775806) : Ev (fun k => impl_QueueOk.f k b n a l c1 c2 c3 c4 c5) (queueOk b n a l c1 c2 c3 c4 c5) := by
  unfold impl_QueueOk.f queueOk
  cases b
  · simp only [Bool.false_eq_true, if_false]
    refine Ev.const ?_
    repeat' split
    all_goals first | (simp_all; done) | (simp_all; rfl)
  · simp only [if_true, impl_isNumber_eq, impl_within_eq, Option.bind_some, decide_eq_true_eq]
    refine Ev.ite (fun h1 => ?_) (fun h1 => ?_)
    · refine Ev.ite (fun h2 => ?_) (fun h2 => ?_)
      · by_cases h3 : l.length > 24
        · refine Ev.step (fun k => by rw [impl_QueueOk.j0, if_pos (by simp; omega)]) ?_
          simpa [show ¬ l.length ≤ 24 by omega] using Ev.some false
        · refine Ev.step (fun k => by rw [impl_QueueOk.j0, if_neg (by simp; omega)]) ?_
          have := impl_QueueOk_loop true n a l (by omega) c1 c2 c3 c4 c5 0 (by omega) (-1) (by omega) (by omega)
          simpa [h1, h2, show l.length ≤ 24 by omega] using this
      · refine Ev.step (fun k => by rw [impl_QueueOk.j0, if_pos rfl]) ?_
        have : ¬ (0 ≤ n ∧ n ≤ 65535 ∧ 0 ≤ a ∧ a ≤ 20 ∧ l.length ≤ 24) := by omega
        simpa [this] using Ev.some false
    · refine Ev.step (fun k => by rw [impl_QueueOk.j0, if_pos rfl]) ?_
      have : ¬ (0 ≤ n ∧ n ≤ 65535 ∧ 0 ≤ a ∧ a ≤ 20 ∧ l.length ≤ 24) := by omega
      simpa [this] using Ev.some false
-- toQueue, eqQueue
theorem laws_toQueue_ev (b : Bool) (n a : Int) (l : List S165) (c1 c2 c3 c4 c5 : Int) (hl : l.length ≤ 8796093022208) : Ev (fun k => laws_toQueue.f k b n a l c1 c2 c3 c4 c5) (b, n, a, l.map toP, c1, c2, c3, c4, c5) := by
  unfold laws_toQueue.f
  exact Ev.bind (laws_toPacketS_ev l hl) (Ev.some _)
theorem laws_eqQueue_self (b : Bool) (n a : Int) (l : List S123) (c1 c2 c3 c4 c5 : Int) (hl : l.length ≤ 9223372036854775806) : Ev (fun k => laws_eqQueue.f k b n a l c1 c2 c3 c4 c5 b n a l c1 c2 c3 c4 c5) true := by
  unfold laws_eqQueue.f
  simp only [bne_self_eq_false, Bool.false_eq_true, if_false, if_true]
  exact Ev.bind (laws_eqPacketS_self l hl) (by simp only [if_true]; exact Ev.some _)
-- sizes of a queue
theorem laws_szQueue_ev (b : Bool) (n a : Int) (l : List S165) (c1 c2 c3 c4 c5 : Int) (hl : l.length ≤ 9223372036854775806) (hs : ∀ x ∈ l, x.f3.size ≤ 9223372036854775807) : ∃ t, Ev (fun k => laws_szQueue.f k b n a l c1 c2 c3 c4 c5 1048576) t ∧ (0 ≤ t → l.length ≤ 1048576) ∧ t ≤ 1048576 := by
  unfold laws_szQueue.f
  obtain ⟨t, ht, h1, h2⟩ := laws_szPacketS_ev l hl hs 1048576 (by omega) (by omega)
  by_cases h : t < 0
  · exact ⟨-1, Ev.bind ht (Ev.pos h (Ev.some _)), by omega, by omega⟩
  · exact ⟨t, Ev.bind ht (Ev.neg h (Ev.some _)), by omega, by omega⟩
-- QueueHas value
def qHas (l : List S123) (s : Int) : Bool := l.any fun p => p.f0 == s
def queueHas (b : Bool) (n a : Int) (l : List S123) (c1 c2 c3 c4 c5 s : Int) : Bool := if queueOk b n a l c1 c2 c3 c4 c5 = true then qHas l s else false
-- QueueHas spec
theorem spec_QueueHas_ev (b : Bool) (n a : Int) (l : List S123) (c1 c2 c3 c4 c5 s : Int) (hl : l.length ≤ 9223372036854775806) : Ev (fun k => spec_QueueHas.f k b n a l c1 c2 c3 c4 c5 s) (queueHas b n a l c1 c2 c3 c4 c5 s) := by
  unfold spec_QueueHas.f queueHas
  refine Ev.bind (spec_QueueOk_ev _ _ _ _ _ _ _ _ _ hl) ?_
  split
  · have key : ∀ i : Nat, i ≤ l.length → Ev (fun k => spec_QueueHas.l0 k s i b n a l c1 c2 c3 c4 c5) (qHas (l.drop i) s) := by
      refine down_to _ ?_ ?_
      · rw [List.drop_eq_nil_of_le (Nat.le_refl _)]
        exact Ev.step (f := fun _ => some false) (fun k => by rw [spec_QueueHas.l0, if_neg (by omega)]) (Ev.some _)
      · intro i hi ih
        refine Ev.step (fun k => by rw [spec_QueueHas.l0, if_pos (by omega), if_pos (by omega), w64_succ hi (by omega)]) ?_
        rw [rdP_drop l i hi]
        unfold qHas
        rw [List.any_cons]
        refine Ev.ite (fun h => ?_) (fun h => ?_)
        · simpa [h] using Ev.some true
        · rw [beq_eq_false_iff_ne.2 h, Bool.false_or]; exact ih
    exact key 0 (by omega)
  · exact Ev.some _
-- QueueHas impl
theorem impl_QueueHas_ev (b : Bool) (n a : Int) (l : List S123) (c1 c2 c3 c4 c5 s : Int) (hl : l.length ≤ 9223372036854775806) : Ev (fun k => impl_QueueHas.f k b n a l c1 c2 c3 c4 c5 s) (queueHas b n a l c1 c2 c3 c4 c5 s) := by
  unfold impl_QueueHas.f queueHas
  refine Ev.bind (impl_QueueOk_ev _ _ _ _ _ _ _ _ _ hl) ?_
  split
  · have key : ∀ i : Nat, i ≤ l.length → Ev (fun k => impl_QueueHas.l0 k s l (l.length : Int) i) (qHas (l.drop i) s) := by
      refine down_to _ ?_ ?_
      · rw [List.drop_eq_nil_of_le (Nat.le_refl _)]
        exact Ev.step (f := fun _ => some false) (fun k => by rw [impl_QueueHas.l0, if_neg (by omega)]) (Ev.some _)
      · intro i hi ih
        refine Ev.step (fun k => by rw [impl_QueueHas.l0, if_pos (by omega), if_pos (by omega), if_pos (by omega), w64_succ hi (by omega)]) ?_
        rw [rdP_drop l i hi]
        unfold qHas
        rw [List.any_cons]
        refine Ev.ite (fun h => ?_) (fun h => ?_)
        · simpa [h] using Ev.some true
        · rw [beq_eq_false_iff_ne.2 h, Bool.false_or]; exact ih
    exact key 0 (by omega)
  · exact Ev.some _
-- LAW FnExactQueueHas
theorem FnExactQueueHas (a0_0 : Bool) (a0_1 a0_2 : Int) (l0_3 : List S165) (a0_4 a0_5 a0_6 a0_7 a0_8 a1 : Int) (m0_3 : l0_3.length ≤ maxLen) (o0_3 : ∀ x ∈ l0_3, (Lit.int .i64 x.f0).wf = true ∧ True ∧ True ∧ x.f3.size ≤ maxLen) :
    ∃ k, laws_FnExactQueueHas.f k a0_0 a0_1 a0_2 l0_3 a0_4 a0_5 a0_6 a0_7 a0_8 a1 = some true := by
  unfold maxLen at m0_3
  refine Ev.rounds (g := fun k => laws_FnExactQueueHas.f k a0_0 a0_1 a0_2 l0_3 a0_4 a0_5 a0_6 a0_7 a0_8 a1) ?_
  unfold laws_FnExactQueueHas.f
  by_cases hl : l0_3.length ≤ 9223372036854775806
  · obtain ⟨t, ht, h1, h2⟩ := laws_szQueue_ev a0_0 a0_1 a0_2 l0_3 a0_4 a0_5 a0_6 a0_7 a0_8 hl (fun x hx => (o0_3 x hx).2.2.2)
    refine Ev.bind ht (Ev.ite (fun _ => Ev.some _) (fun h => ?_))
    have hq := laws_toQueue_ev a0_0 a0_1 a0_2 l0_3 a0_4 a0_5 a0_6 a0_7 a0_8 (by omega)
    refine Ev.bind hq (Ev.bind (spec_QueueHas_ev _ _ _ _ _ _ _ _ _ _ (by simp; omega)) (Ev.bind hq (Ev.bind (impl_QueueHas_ev _ _ _ _ _ _ _ _ _ _ (by simp; omega)) ?_)))
    simp only [bne_self_eq_false, Bool.false_eq_true, if_false]
    exact Ev.bind hq (Ev.bind (laws_eqQueue_self _ _ _ _ _ _ _ _ _ (by simp; omega)) (by simp only [if_true]; exact Ev.some _))
  · unfold laws_szQueue.f laws_szPacketS.f
    rw [w64 (by omega) (by omega)]
    simp only [if_pos (show (1048576 : Int) - l0_3.length < 0 by omega), Option.bind_some]
    exact Ev.some _

end Go.Proofs.Ytfbifogoheajmaa.Pure
