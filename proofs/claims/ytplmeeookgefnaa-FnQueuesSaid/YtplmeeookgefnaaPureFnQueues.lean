/- The pure statement of the law FnQueues: over numbers, texts and lists alone, what the law computes is true. Conditions: the sizes of what a machine holds. -/
import Derived.Test.YtplmeeookgefnaaDFnQueues
namespace Go.Proofs.Ytplmeeookgefnaa.Pure
open Go Go.Proofs Go.Proofs.YtplmeeookgefnaaAL Go.RowKit Go.Proofs.Ytplmeeookgefnaa.A
set_option linter.unusedVariables false
set_option linter.unusedSimpArgs false
set_option maxHeartbeats 1000000
theorem bnd_s {α β : Type} (a : α) (f : α → Option β) : bnd (some a) f = f a := rfl
theorem sel_t {β : Type} (x y : β) : sel true x y = x := rfl
theorem sel_f {β : Type} (x y : β) : sel false x y = y := rfl
theorem sel_n {β : Type} (b : Bool) (x y : β) : sel (!b) x y = sel b y x := by cases b <;> rfl
theorem sel_and (b x : Bool) : sel b (some x) (some false) = some (b && x) := by cases b <;> rfl
theorem sel_or (b x : Bool) : sel b (some true) (some x) = some (b || x) := by cases b <;> rfl
theorem sel_nor (b x : Bool) : sel b (some x) (some true) = some (!b || x) := by cases b <;> rfl
theorem sel_d {β : Type} (p : Prop) [Decidable p] (x y : β) : sel (decide p) x y = if p then x else y := by
  by_cases h : p <;> simp [h, sel]
theorem sel_pos {β : Type} {b : Bool} {x y : β} (h : b = true) : sel b x y = x := by subst h; rfl
theorem sel_neg {β : Type} {b : Bool} {x y : β} (h : b = false) : sel b x y = y := by subst h; rfl
theorem sel_yes {β : Type} {p : Prop} [Decidable p] {x y : β} (h : p) : sel (decide p) x y = x := by simp [h, sel]
theorem sel_no {β : Type} {p : Prop} [Decidable p] {x y : β} (h : ¬ p) : sel (decide p) x y = y := by simp [h, sel]
theorem req_p {β : Type} {c : Prop} [Decidable c] {k : Option β} (h : c) : req c k = k := if_pos h
theorem wk {e : Int} (h1 : -9223372036854775808 ≤ e) (h2 : e ≤ 9223372036854775807) : wrapK .i64 e = e := by
  show wrap64 e = e
  unfold wrap64; omega
theorem maxLen_eq : maxLen = 9223372036854775807 := rfl
theorem tmod_pos {a b : Int} (h : 0 ≤ a) : Int.tmod a b = a % b := Int.tmod_eq_emod_of_nonneg h
theorem down_to {P : Nat → Prop} (n : Nat) (h0 : P n) (hs : ∀ i, i < n → P (i + 1) → P i) : ∀ i, i ≤ n → P i := by
  intro i hi
  obtain ⟨k, rfl⟩ : ∃ k, n = i + k := ⟨n - i, by omega⟩
  clear hi
  induction k generalizing i with
  | zero => exact h0
  | succ k ih =>
    refine hs i (by omega) ?_
    exact ih (i + 1) (by rw [show i + 1 + k = i + (k + 1) by omega]; exact h0) (fun j hj => hs j (by omega))
theorem lgo {V O : Type} {f : V → Option (Lp V O)} {x y : V} {r : Option O} (h : f x = some (.go y)) (k : loop f y = r) : loop f x = r := by rw [loop_go h]; exact k
theorem ldone {V O : Type} {f : V → Option (Lp V O)} {x : V} {o : O} (h : f x = some (.done o)) : loop f x = some o := loop_done h
theorem loop_inv {V O : Type} {f : V → Option (Lp V O)} (I : V → Prop) (m : V → Nat) (Q : V → O → Prop) (h : ∀ v, I v → (∃ o, f v = some (.done o) ∧ Q v o) ∨ ∃ v', f v = some (.go v') ∧ I v' ∧ m v' < m v ∧ ∀ o, Q v' o → Q v o) : ∀ v, I v → ∃ o, loop f v = some o ∧ Q v o := by
  intro v
  generalize hn : m v = n
  induction n using Nat.strongRecOn generalizing v with
  | _ n ih =>
    intro hv
    rcases h v hv with ⟨o, h1, h2⟩ | ⟨v', h1, h2, h3, h4⟩
    · exact ⟨o, loop_done h1, h2⟩
    · obtain ⟨o, h5, h6⟩ := ih (m v') (by omega) v' rfl h2
      exact ⟨o, by rw [loop_go h1]; exact h5, h4 o h6⟩
theorem getD_at {α : Type} (l : List α) (i : Nat) (h : i < l.length) (d : α) : l.getD i d = l[i] := by
  simp [List.getD_eq_getElem?_getD, List.getElem?_eq_getElem h]
theorem drop_at {α : Type} (l : List α) (i : Nat) (h : i < l.length) (d : α) : l.drop i = l.getD i d :: l.drop (i + 1) := by
  rw [List.drop_eq_getElem_cons h, getD_at l i h]
theorem impl_within_eq (a b c : Int) : impl_within a b c = some (decide (b ≤ a ∧ a ≤ c)) := by
  unfold impl_within
  by_cases h : b ≤ a <;> simp [bnd, sel, h]
theorem spec_l01In_eq (a b c : Int) : spec_l01In a b c = some (decide (b ≤ a ∧ a ≤ c)) := by
  unfold spec_l01In
  by_cases h : b ≤ a <;> simp [bnd, sel, h]
theorem impl_isNumber_eq (a : Int) : impl_isNumber a = some (decide (0 ≤ a ∧ a ≤ 65535)) := by
  unfold impl_isNumber; rw [impl_within_eq]; rfl
theorem getD_mid {α : Type} (a : List α) (x d : α) (b : List α) : (a ++ x :: b).getD a.length d = x := by
  induction a with
  | nil => rfl
  | cons z a ih => simp
theorem self_loop {f : Int → Option (Lp Int (Ou Unit Bool))} (n : Nat) (h : ∀ i : Nat, i < n → f i = some (.go ((i + 1 : Nat) : Int))) (h0 : f n = some (.done (.out ()))) : loop f 0 = some (.out ()) :=
  down_to (P := fun i => loop f (i : Int) = some (.out ())) n (loop_done h0) (fun i hi ih => by rw [loop_go (h i hi)]; exact ih) 0 (by omega)
theorem and_255 (y : Int) : 0 ≤ IntKind.wrap .i64 (BitVec.ofInt (IntKind.bits .i64) y &&& BitVec.ofInt (IntKind.bits .i64) 255).toNat ∧ IntKind.wrap .i64 (BitVec.ofInt (IntKind.bits .i64) y &&& BitVec.ofInt (IntKind.bits .i64) 255).toNat ≤ 255 := by
  have h : (BitVec.ofInt (IntKind.bits .i64) y &&& BitVec.ofInt (IntKind.bits .i64) 255).toNat ≤ 255 := by
    rw [BitVec.toNat_and]
    exact Nat.le_trans Nat.and_le_right (by decide)
  generalize (BitVec.ofInt (IntKind.bits .i64) y &&& BitVec.ofInt (IntKind.bits .i64) 255).toNat = n at h ⊢
  rw [← wrapK_eq, wk (by omega) (by omega)]
  omega
def curOk (c : L01Cur) : Prop := c.b_.length ≤ 1048576 ∧ 0 ≤ c.i_
theorem spec_l01New_ev (b : List Int) (hb : b.length ≤ 1048576) : ∃ c, spec_l01New b = some c ∧ curOk c := by
  unfold spec_l01New
  obtain ⟨o, h, _⟩ := loop_inv (f := spec_l01New_l2 b) (fun v => 0 ≤ v.2) (fun v => b.length - v.2.toNat) (fun _ _ => True) (by
    intro ⟨h, i⟩ hi
    unfold spec_l01New_l2
    simp only [sel_and, bnd_s] at hi ⊢
    by_cases h1 : i < b.length ∧ i < 4000
    · rw [sel_pos (by simp; exact h1), req_p ⟨hi, h1.1⟩]
      refine .inr ⟨_, rfl, ?_, ?_, fun _ _ => trivial⟩
      · simp only; rw [wk (by omega) (by omega)]; omega
      · simp only; rw [wk (by omega) (by omega)]; omega
    · rw [sel_neg (by simp; omega)]
      exact .inl ⟨_, rfl, trivial⟩) (wrapK .i64 (94701 + (b.length : Int)), 0) (by simp)
  rw [h]
  exact ⟨_, rfl, hb, by simp⟩
theorem spec_l01Byte_ev (c : L01Cur) (hc : curOk c) : ∃ x c', spec_l01Byte c = some (x, c') ∧ 0 ≤ x ∧ x ≤ 255 ∧ curOk c' := by
  unfold spec_l01Byte
  rw [req_p (by decide), req_p (by decide)]
  obtain ⟨h1, h2⟩ := hc
  by_cases h : c.i_ < c.b_.length
  · rw [sel_yes h, req_p ⟨h2, h⟩, bnd_s]
    refine ⟨_, _, rfl, (and_255 _).1, (and_255 _).2, h1, ?_⟩
    simp only; rw [wk (by omega) (by omega)]; omega
  · rw [sel_no h, bnd_s]
    exact ⟨_, _, rfl, (and_255 _).1, (and_255 _).2, h1, h2⟩
theorem spec_l01Below_ev (c : L01Cur) (n : Int) (hc : curOk c) : ∃ x c', spec_l01Below c n = some (x, c') ∧ 0 ≤ x ∧ (0 < n → x < n) ∧ (n ≤ 0 → x = 0) ∧ curOk c' := by
  unfold spec_l01Below
  by_cases h0 : n ≤ 0
  · rw [sel_yes h0]; exact ⟨_, _, rfl, by omega, fun h => by omega, fun _ => rfl, hc⟩
  · rw [sel_no h0]
    obtain ⟨x, c1, e1, a1, b1, hc1⟩ := spec_l01Byte_ev c hc
    by_cases h1 : n ≤ 256
    · rw [sel_yes h1, e1, bnd_s, req_p (by omega)]
      refine ⟨_, _, rfl, ?_, fun _ => ?_, fun h => by omega, hc1⟩
      · simp only; rw [tmod_pos a1]; exact Int.emod_nonneg _ (by omega)
      · simp only; rw [tmod_pos a1]; exact Int.emod_lt_of_pos _ (by omega)
    · obtain ⟨y, c2, e2, a2, b2, hc2⟩ := spec_l01Byte_ev c1 hc1
      obtain ⟨z, c3, e3, a3, b3, hc3⟩ := spec_l01Byte_ev c2 hc2
      obtain ⟨u, c4, e4, a4, b4, hc4⟩ := spec_l01Byte_ev c3 hc3
      rw [sel_no h1, e1, bnd_s]
      simp only
      rw [e2, bnd_s]
      simp only
      rw [e3, bnd_s]
      simp only
      rw [e4, bnd_s, req_p (by omega)]
      simp only
      rw [wk (e := x * 16777216) (by omega) (by omega), wk (e := y * 65536) (by omega) (by omega), wk (e := z * 256) (by omega) (by omega), wk (e := x * 16777216 + y * 65536) (by omega) (by omega), wk (e := x * 16777216 + y * 65536 + z * 256) (by omega) (by omega), wk (by omega) (by omega), tmod_pos (by omega)]
      exact ⟨_, _, rfl, Int.emod_nonneg _ (by omega), fun _ => Int.emod_lt_of_pos _ (by omega), fun h => by omega, hc4⟩
theorem spec_l01Once_ev (c : L01Cur) (n : Int) (hc : curOk c) : ∃ x c', spec_l01Once c n = some (x, c') ∧ curOk c' := by
  unfold spec_l01Once
  obtain ⟨x, c', e, _, _, _, h⟩ := spec_l01Below_ev c n hc
  rw [e, bnd_s]; exact ⟨_, _, rfl, h⟩
theorem laws_big_eq (l : List Int) : laws_big l = some (decide ((l.length : Int) > 1048576)) := rfl
theorem spec_DrawPlaces_ev (b : List Int) (hb : b.length ≤ 1048576) : ∃ l, spec_DrawPlaces b = some l ∧ l.length = 12 ∧ ∀ x ∈ l, 0 ≤ x ∧ x < 10000 := by
  unfold spec_DrawPlaces
  obtain ⟨c, e, hc⟩ := spec_l01New_ev b hb
  obtain ⟨x, c1, e1, _, _, hc1⟩ := spec_l01Byte_ev c hc
  rw [e, bnd_s, e1, bnd_s]
  obtain ⟨o, h, h2⟩ := loop_inv (f := spec_DrawPlaces_l2) (fun v => 0 ≤ v.1 ∧ v.1 ≤ 12 ∧ curOk ⟨v.2.1, v.2.2.1, v.2.2.2.1⟩ ∧ (v.2.2.2.2.length : Int) = v.1 ∧ ∀ x ∈ v.2.2.2.2, 0 ≤ x ∧ x < 10000) (fun v => 12 - v.1.toNat) (fun _ o => o.length = 12 ∧ ∀ x ∈ o, 0 ≤ x ∧ x < 10000) (by
    intro ⟨i, b, j, h, l⟩ ⟨h1, h2, h3, h4, h5⟩
    unfold spec_DrawPlaces_l2
    simp only at h1 h2 h3 h4 h5 ⊢
    by_cases hi : i < 12
    · obtain ⟨x, c', ex, x0, x1, _, hx⟩ := spec_l01Below_ev _ 10000 h3
      rw [sel_yes hi, ex, bnd_s, req_p (by rw [maxLen_eq]; simp only [List.length_singleton]; omega)]
      refine .inr ⟨_, rfl, ?_, ?_, fun _ h => h⟩
      · rw [wk (by omega) (by omega)]
        refine ⟨by omega, by omega, hx, by simp; omega, ?_⟩
        intro y hy
        rcases List.mem_append.1 hy with hy | hy
        · exact h5 y hy
        · rw [List.mem_singleton.1 hy]; exact ⟨x0, x1 (by omega)⟩
      · rw [wk (by omega) (by omega)]; omega
    · rw [sel_no hi]
      exact .inl ⟨_, rfl, by omega, h5⟩) (0, c1.b_, c1.i_, c1.h_, []) ⟨by simp, by simp, hc1, by simp, by simp⟩
  rw [h]
  exact ⟨_, rfl, h2⟩
def brought (n a b : Int) : Int := if b < a ∨ n < a then a else if n > b then b else n
def seqPlus (a b : Int) : Int := if 0 ≤ a ∧ a ≤ 65535 ∧ 0 ≤ b ∧ b ≤ 65535 then (a + b) % 65536 else 0
theorem impl_SeqPlus_eq (a b : Int) : impl_SeqPlus a b = some (seqPlus a b) := by
  unfold impl_SeqPlus seqPlus
  simp only [impl_isNumber_eq, bnd_s, sel_nor]
  by_cases h : 0 ≤ a ∧ a ≤ 65535 ∧ 0 ≤ b ∧ b ≤ 65535
  · rw [if_pos h, sel_neg (by simp; omega), req_p (by decide), wk (by omega) (by omega), tmod_pos (by omega)]
  · rw [if_neg h, sel_pos (by simp; omega)]
theorem spec_SeqPlus_eq (a b : Int) : spec_SeqPlus a b = some (seqPlus a b) := by
  unfold spec_SeqPlus seqPlus
  simp only [spec_l01In_eq, bnd_s, sel_nor]
  by_cases h : 0 ≤ a ∧ a ≤ 65535 ∧ 0 ≤ b ∧ b ≤ 65535
  · rw [if_pos h, sel_neg (by simp; omega), req_p (by decide), wk (by omega) (by omega), tmod_pos (by omega)]
  · rw [if_neg h, sel_pos (by simp; omega)]
def seqGap (a b : Int) : Int := if 0 ≤ a ∧ a ≤ 65535 ∧ 0 ≤ b ∧ b ≤ 65535 then (if b - a > 32767 then b - a - 65536 else if b - a < -32768 then b - a + 65536 else b - a) else 0
theorem impl_SeqGap_eq (a b : Int) : impl_SeqGap a b = some (seqGap a b) := by
  unfold impl_SeqGap seqGap
  simp only [impl_isNumber_eq, bnd_s, sel_nor]
  by_cases h : 0 ≤ a ∧ a ≤ 65535 ∧ 0 ≤ b ∧ b ≤ 65535
  · rw [if_pos h, sel_neg (by simp; omega), req_p (by decide), wk (e := b - a) (by omega) (by omega), wk (e := b - a + 65536) (by omega) (by omega), tmod_pos (by omega), wk (by omega) (by omega), sel_d]
    repeat' split
    all_goals (simp only [bnd_s]; congr 1; omega)
  · rw [if_neg h, sel_pos (by simp; omega)]
theorem spec_SeqGap_eq (a b : Int) : spec_SeqGap a b = some (seqGap a b) := by
  unfold spec_SeqGap seqGap
  simp only [spec_l01In_eq, bnd_s, sel_nor]
  by_cases h : 0 ≤ a ∧ a ≤ 65535 ∧ 0 ≤ b ∧ b ≤ 65535
  · rw [if_pos h, sel_neg (by simp; omega), wk (e := b - a) (by omega) (by omega), wk (by omega) (by omega)]
    simp only [sel_d]
    by_cases h1 : b - a > 32767
    · rw [if_pos h1, if_pos h1, bnd_s, if_neg (by omega), bnd_s]
    · rw [if_neg h1, if_neg h1, bnd_s]
      by_cases h2 : b - a < -32768
      · rw [if_pos h2, if_pos h2, bnd_s, wk (by omega) (by omega)]
      · rw [if_neg h2, if_neg h2, bnd_s]
  · rw [if_neg h, sel_pos (by simp; omega)]
def packetOk (p : Packet) : Bool := decide (0 ≤ p.Seq ∧ p.Seq ≤ 65535 ∧ 1 ≤ p.Bytes.size ∧ p.Bytes.size ≤ 400)
theorem packetOk_iff (p : Packet) : packetOk p = true ↔ 0 ≤ p.Seq ∧ p.Seq ≤ 65535 ∧ 1 ≤ p.Bytes.size ∧ p.Bytes.size ≤ 400 := by simp [packetOk]
theorem impl_PacketOk_eq (p : Packet) : impl_PacketOk p = some (packetOk p) := by
  unfold impl_PacketOk packetOk
  simp only [impl_isNumber_eq, impl_within_eq, bnd_s, sel_and]
  congr 1
  rw [Bool.eq_iff_iff]; simp; omega
theorem spec_PacketOk_eq (p : Packet) : spec_PacketOk p = some (packetOk p) := by
  unfold spec_PacketOk packetOk
  simp only [spec_l01In_eq, bnd_s, sel_and]
  congr 1
  rw [Bool.eq_iff_iff]; simp; omega
def cnt (n : Int) : Bool := decide (0 ≤ n ∧ n ≤ 1000000000)
theorem spec_l23Count_eq (n : Int) : spec_l23Count n = some (cnt n) := by
  unfold spec_l23Count cnt
  rw [spec_l01In_eq, bnd_s]
def more (n : Int) : Int := if n + 1 < 1000000000 then n + 1 else 1000000000
theorem impl_counted_eq (n : Int) (h : cnt n = true) : impl_counted n = some (more n) := by
  have h' : 0 ≤ n ∧ n ≤ 1000000000 := by simpa [cnt] using h
  unfold impl_counted more
  rw [wk (by omega) (by omega)]
  congr 1
  split <;> split <;> omega
theorem spec_Brought_eq (n a b : Int) : spec_Brought n a b = some (brought n a b) := by
  unfold spec_Brought brought
  rw [sel_or, bnd_s]
  by_cases h : b < a ∨ n < a
  · rw [if_pos h, sel_pos (by simpa using h)]
  · rw [if_neg h, sel_neg (by simp; omega), sel_d]; split <;> rfl
theorem spec_l23More_eq (n : Int) (h : cnt n = true) : spec_l23More n = some (more n) := by
  have h' : 0 ≤ n ∧ n ≤ 1000000000 := by simpa [cnt] using h
  unfold spec_l23More more
  rw [wk (by omega) (by omega), spec_Brought_eq, bnd_s]
  unfold brought
  congr 1
  repeat' split
  all_goals omega
def heldOk (next : Int) : Int → List Packet → Bool
  | _, [] => true
  | last, p :: r => packetOk p && decide (last < seqGap next p.Seq ∧ seqGap next p.Seq < 40) && heldOk next (seqGap next p.Seq) r
def cnts (q : Queue) : Bool := cnt q.Late && cnt q.Far && cnt q.Twice && cnt q.Over && cnt q.Lost
def queueOk (q : Queue) : Bool :=
  if q.Begun = true then decide (0 ≤ q.Next ∧ q.Next ≤ 65535 ∧ 0 ≤ q.Age ∧ q.Age ≤ 20 ∧ q.Held.length ≤ 24) && (heldOk q.Next (-1) q.Held && cnts q)
  else decide (q.Next = 0 ∧ q.Age = 0 ∧ q.Held.length = 0 ∧ q.Late = 0 ∧ q.Far = 0 ∧ q.Twice = 0 ∧ q.Over = 0 ∧ q.Lost = 0)
theorem spec_QueueOk_eq (q : Queue) : spec_QueueOk q = some (queueOk q) := by
  unfold spec_QueueOk queueOk
  simp only [spec_l01In_eq, spec_l23Count_eq, bnd_s, sel_and, sel_nor]
  by_cases hb : q.Begun = true
  · rw [sel_neg (by simp [hb]), if_pos hb]
    by_cases h1 : 0 ≤ q.Next ∧ q.Next ≤ 65535 ∧ 0 ≤ q.Age ∧ q.Age ≤ 20 ∧ q.Held.length ≤ 24
    · rw [sel_neg (by simp; omega), decide_eq_true h1, Bool.true_and]
      have key : ∀ (r a : List Packet) (last : Int), q.Held = a ++ r → loop (spec_QueueOk_l2 q) (last, (a.length : Int)) = some (if heldOk q.Next last r = true then .out () else .ret false) := by
        intro r
        induction r with
        | nil =>
          intro a last ha
          rw [List.append_nil] at ha
          refine ldone ?_
          unfold spec_QueueOk_l2
          simp only
          rw [sel_no (by rw [ha]; omega)]; rfl
        | cons p r ih =>
          intro a last ha
          have hlen : a.length < q.Held.length := by rw [ha]; simp
          have hp : q.Held.getD a.length dPacket = p := by rw [ha]; exact getD_mid a p _ r
          have hstep : spec_QueueOk_l2 q (last, (a.length : Int)) = sel (!(packetOk p && decide (last < seqGap q.Next p.Seq ∧ seqGap q.Next p.Seq < 40))) (some (.done (.ret false))) (some (.go (seqGap q.Next p.Seq, ((a.length + 1 : Nat) : Int)))) := by
            unfold spec_QueueOk_l2
            simp only [Int.toNat_natCast, hp]
            rw [sel_yes (by omega), req_p (by omega), spec_SeqGap_eq, bnd_s, req_p (by omega), spec_PacketOk_eq, bnd_s, wk (by omega) (by omega), sel_or, sel_nor, bnd_s]
            congr 1
            cases packetOk p <;> rw [Bool.eq_iff_iff] <;> simp <;> omega
          by_cases h : packetOk p = true ∧ last < seqGap q.Next p.Seq ∧ seqGap q.Next p.Seq < 40
          · rw [lgo (by rw [hstep, sel_neg (by simp [h])]) rfl]
            have := ih (a ++ [p]) (seqGap q.Next p.Seq) (by rw [ha]; simp)
            rw [List.length_append, List.length_singleton] at this
            rw [this]
            simp [heldOk, h]
          · rw [ldone (by rw [hstep, sel_pos (by simp only [Bool.not_eq_true', Bool.and_eq_false_iff, decide_eq_false_iff_not]; by_cases hp : packetOk p = true; exact .inr (fun e => h ⟨hp, e⟩); exact .inl (by simpa using hp))])]
            rw [if_neg]
            simp only [heldOk, Bool.and_eq_true, decide_eq_true_eq]
            exact fun e => h ⟨e.1.1, e.1.2⟩
      have := key q.Held [] (-1) rfl
      simp only [List.length_nil] at this
      rw [show (((-1 : Int), (0 : Int))) = ((-1), ((0 : Nat) : Int)) from rfl, this, bnd_s]
      by_cases h2 : heldOk q.Next (-1) q.Held = true
      · rw [if_pos h2, h2]; simp only [cnts, Bool.true_and, Bool.and_assoc]
      · rw [if_neg h2]; simp only [Bool.not_eq_true] at h2; rw [h2]; rfl
    · rw [sel_pos (by simp; omega), decide_eq_false h1, Bool.false_and]
  · rw [sel_pos (by simpa using hb), if_neg hb]
    congr 1
    rw [Bool.eq_iff_iff]; simp
theorem impl_QueueOk_eq (q : Queue) : impl_QueueOk q = some (queueOk q) := by
  unfold impl_QueueOk queueOk
  simp only [impl_isNumber_eq, impl_within_eq, bnd_s, sel_and, sel_nor]
  by_cases hb : q.Begun = true
  · rw [sel_neg (by simp [hb]), if_pos hb]
    by_cases h1 : 0 ≤ q.Next ∧ q.Next ≤ 65535 ∧ 0 ≤ q.Age ∧ q.Age ≤ 20 ∧ q.Held.length ≤ 24
    · rw [sel_neg (by simp; omega), decide_eq_true h1, Bool.true_and]
      have key : ∀ (r a : List Packet) (last : Int), q.Held = a ++ r → -1 ≤ last → last < 40 → loop (impl_QueueOk_l2 q) (last, (a.length : Int)) = some (if heldOk q.Next last r = true then .out () else .ret false) := by
        intro r
        induction r with
        | nil =>
          intro a last ha _ _
          rw [List.append_nil] at ha
          refine ldone ?_
          unfold impl_QueueOk_l2
          simp only
          rw [sel_no (by rw [ha]; omega)]; rfl
        | cons p r ih =>
          intro a last ha hl1 hl2
          have hlen : a.length < q.Held.length := by rw [ha]; simp
          have hp : q.Held.getD a.length dPacket = p := by rw [ha]; exact getD_mid a p _ r
          have hstep : impl_QueueOk_l2 q (last, (a.length : Int)) = sel (!(packetOk p && decide (last < seqGap q.Next p.Seq ∧ seqGap q.Next p.Seq < 40))) (some (.done (.ret false))) (some (.go (seqGap q.Next p.Seq, ((a.length + 1 : Nat) : Int)))) := by
            unfold impl_QueueOk_l2
            simp only [Int.toNat_natCast, hp]
            rw [sel_yes (by omega), req_p (by omega), impl_SeqGap_eq, bnd_s, impl_PacketOk_eq, bnd_s, wk (by omega) (by omega), impl_within_eq, bnd_s, wk (by omega) (by omega), sel_nor, bnd_s]
            congr 1
            cases packetOk p <;> rw [Bool.eq_iff_iff] <;> simp <;> omega
          by_cases h : packetOk p = true ∧ last < seqGap q.Next p.Seq ∧ seqGap q.Next p.Seq < 40
          · rw [lgo (by rw [hstep, sel_neg (by simp [h])]) rfl]
            have := ih (a ++ [p]) (seqGap q.Next p.Seq) (by rw [ha]; simp) (by omega) (by omega)
            rw [List.length_append, List.length_singleton] at this
            rw [this]
            simp [heldOk, h]
          · rw [ldone (by rw [hstep, sel_pos (by simp only [Bool.not_eq_true', Bool.and_eq_false_iff, decide_eq_false_iff_not]; by_cases hp : packetOk p = true; exact .inr (fun e => h ⟨hp, e⟩); exact .inl (by simpa using hp))])]
            rw [if_neg]
            simp only [heldOk, Bool.and_eq_true, decide_eq_true_eq]
            exact fun e => h ⟨e.1.1, e.1.2⟩
      have := key q.Held [] (-1) rfl (by omega) (by omega)
      simp only [List.length_nil] at this
      rw [show (((-1 : Int), (0 : Int))) = ((-1), ((0 : Nat) : Int)) from rfl, this, bnd_s]
      by_cases h2 : heldOk q.Next (-1) q.Held = true
      · rw [if_pos h2, h2, Bool.true_and]
        have st : ∀ i : Nat, i < 5 → impl_QueueOk_l4 q (i : Int) = sel (cnt (([q.Late, q.Far, q.Twice, q.Over, q.Lost]).getD i 0)) (some (.go ((i + 1 : Nat) : Int))) (some (.done (.ret false))) := by
          intro i hi
          unfold impl_QueueOk_l4
          simp only [List.length_cons, List.length_nil]
          rw [sel_yes (by omega), req_p (by omega), req_p (by omega), impl_within_eq, bnd_s, sel_n, wk (by omega) (by omega)]
          rfl
        have e5 : loop (impl_QueueOk_l4 q) ((5 : Nat) : Int) = some (.out ()) := ldone (by unfold impl_QueueOk_l4; rw [sel_no (by simp)])
        have go : ∀ i : Nat, i < 5 → loop (impl_QueueOk_l4 q) (i : Int) = sel (cnt (([q.Late, q.Far, q.Twice, q.Over, q.Lost]).getD i 0)) (loop (impl_QueueOk_l4 q) ((i + 1 : Nat) : Int)) (some (.ret false)) := by
          intro i hi
          have := st i hi
          cases h : cnt (([q.Late, q.Far, q.Twice, q.Over, q.Lost]).getD i 0) with
          | true => rw [h] at this; exact loop_go this
          | false => rw [h] at this; exact loop_done this
        have := go 0 (by omega)
        rw [show (0 : Int) = ((0 : Nat) : Int) from rfl, this, go 1 (by omega), go 2 (by omega), go 3 (by omega), go 4 (by omega), e5]
        simp only [cnts, List.getD_cons_zero, List.getD_cons_succ]
        cases cnt q.Late <;> cases cnt q.Far <;> cases cnt q.Twice <;> cases cnt q.Over <;> cases cnt q.Lost <;> rfl
      · rw [if_neg h2]; simp only [Bool.not_eq_true] at h2; rw [h2]; rfl
    · rw [sel_pos (by simp; omega), decide_eq_false h1, Bool.false_and]
  · rw [sel_pos (by simpa using hb), if_neg hb]
    congr 1
    rw [Bool.eq_iff_iff]; simp
theorem heldOk_mem : ∀ {l : List Packet} {n last : Int}, heldOk n last l = true → ∀ p ∈ l, packetOk p = true
  | [], _, _, _, p, hp => by simp at hp
  | q :: r, n, last, h, p, hp => by
    rw [heldOk, Bool.and_eq_true, Bool.and_eq_true] at h
    rcases List.mem_cons.1 hp with rfl | hp
    · exact h.1.1
    · exact heldOk_mem h.2 p hp
theorem queueOk_held {q : Queue} (h : queueOk q = true) : 0 ≤ q.Next ∧ q.Next ≤ 65535 ∧ q.Held.length ≤ 24 ∧ 0 ≤ q.Age ∧ q.Age ≤ 20 ∧ cnts q = true ∧ ∀ p ∈ q.Held, packetOk p = true := by
  unfold queueOk at h
  by_cases hb : q.Begun = true
  · rw [if_pos hb, Bool.and_eq_true, Bool.and_eq_true, decide_eq_true_eq] at h
    exact ⟨h.1.1, h.1.2.1, h.1.2.2.2.2, h.1.2.2.1, h.1.2.2.2.1, h.2.2, heldOk_mem h.2.1⟩
  · rw [if_neg hb, decide_eq_true_eq] at h
    obtain ⟨h1, h2, h3, h4, h5, h6, h7, h8⟩ := h
    have : q.Held = [] := List.length_eq_zero_iff.1 h3
    refine ⟨by omega, by omega, by omega, by omega, by omega, ?_, by rw [this]; simp⟩
    unfold cnts cnt; rw [h4, h5, h6, h7, h8]; rfl
theorem cnts_each {q : Queue} (h : cnts q = true) : cnt q.Late = true ∧ cnt q.Far = true ∧ cnt q.Twice = true ∧ cnt q.Over = true ∧ cnt q.Lost = true := by
  unfold cnts at h
  simp only [Bool.and_eq_true] at h
  exact ⟨h.1.1.1.1, h.1.1.1.2, h.1.1.2, h.1.2, h.2⟩
theorem impl_copyQueue_eq (q : Queue) (h : q.Held.length ≤ 1048576) : impl_copyQueue q = some q := by
  have hm : maxLen = 9223372036854775807 := rfl
  unfold impl_copyQueue
  rw [req_p (by simp only [List.length_nil]; omega), List.nil_append]
theorem spec_l23Copy_eq (q : Queue) (h : q.Held.length ≤ 1048576) : spec_l23Copy q = some q := by
  have hm : maxLen = 9223372036854775807 := rfl
  unfold spec_l23Copy
  rw [req_p (by simp only [List.length_nil]; omega), List.nil_append]
def hasSeq (s : Int) (l : List Packet) : Bool := l.any fun p => p.Seq == s
theorem has_loop (q : Queue) (s : Int) (f : Int → Option (Lp Int (Ou Unit Bool))) (hl : q.Held.length ≤ 1048576)
    (h : ∀ i : Nat, i < q.Held.length → f (i : Int) = sel (((q.Held.getD i dPacket).Seq) == s) (some (.done (.ret true))) (some (.go ((i + 1 : Nat) : Int)))) (h0 : f (q.Held.length : Int) = some (.done (.out ()))) :
    loop f 0 = some (if hasSeq s q.Held = true then .ret true else .out ()) := by
  have key : ∀ (r a : List Packet), q.Held = a ++ r → loop f (a.length : Int) = some (if hasSeq s r = true then .ret true else .out ()) := by
    intro r
    induction r with
    | nil => intro a ha; rw [List.append_nil] at ha; rw [ha] at h0; rw [loop_done h0]; rfl
    | cons p r ih =>
      intro a ha
      have hlen : a.length < q.Held.length := by rw [ha]; simp
      have hp : q.Held.getD a.length dPacket = p := by rw [ha]; exact getD_mid a p _ r
      have hs := h a.length hlen
      rw [hp] at hs
      by_cases e : p.Seq = s
      · rw [sel_pos (by simpa using e)] at hs
        rw [loop_done hs, if_pos (by simp [hasSeq, e])]
      · rw [sel_neg (by simpa using e)] at hs
        rw [loop_go hs]
        have := ih (a ++ [p]) (by rw [ha]; simp)
        rw [List.length_append, List.length_singleton] at this
        rw [this]
        have e2 : hasSeq s (p :: r) = hasSeq s r := by simp [hasSeq, e]
        rw [e2]
  exact key q.Held [] rfl
theorem impl_QueueHas_eq (q : Queue) (s : Int) : impl_QueueHas q s = some (queueOk q && hasSeq s q.Held) := by
  unfold impl_QueueHas
  rw [impl_QueueOk_eq, bnd_s, sel_n]
  cases h : queueOk q with
  | false => rfl
  | true =>
    have hq := queueOk_held h
    rw [sel_t, has_loop q s (impl_QueueHas_l2 q s) (by omega) (by
      intro i hi
      unfold impl_QueueHas_l2
      rw [sel_yes (by omega), req_p (by omega), wk (by omega) (by omega)]; rfl) (by unfold impl_QueueHas_l2; rw [sel_no (by omega)]), bnd_s]
    cases hasSeq s q.Held <;> rfl
theorem spec_QueueHas_eq (q : Queue) (s : Int) : spec_QueueHas q s = some (queueOk q && hasSeq s q.Held) := by
  unfold spec_QueueHas
  rw [spec_QueueOk_eq, bnd_s, sel_n]
  cases h : queueOk q with
  | false => rfl
  | true =>
    have hq := queueOk_held h
    rw [sel_t, has_loop q s (spec_QueueHas_l2 q s) (by omega) (by
      intro i hi
      unfold spec_QueueHas_l2
      rw [sel_yes (by omega), req_p (by omega), wk (by omega) (by omega)]; rfl) (by unfold spec_QueueHas_l2; rw [sel_no (by omega)]), bnd_s]
    cases hasSeq s q.Held <;> rfl
def readyN (next : Int) : Nat → List Packet → Nat
  | _, [] => 0
  | i, p :: r => if p.Seq = seqPlus next i then (if p.Last = true then i + 1 else readyN next (i + 1) r) else 0
theorem readyN_le (next : Int) : ∀ (r : List Packet) (i : Nat), readyN next i r ≤ i + r.length
  | [], i => by simp [readyN]
  | p :: r, i => by
    rw [readyN]
    have := readyN_le next r (i + 1)
    split
    · split
      · simp
      · simp; omega
    · omega
theorem gap_iff {n s : Int} {i : Nat} (h1 : 0 ≤ n ∧ n ≤ 65535) (h2 : 0 ≤ s ∧ s ≤ 65535) (h3 : i ≤ 24) : seqGap n s = i ↔ s = seqPlus n i := by
  unfold seqGap seqPlus
  rw [if_pos (show 0 ≤ n ∧ n ≤ 65535 ∧ 0 ≤ s ∧ s ≤ 65535 by omega), if_pos (show 0 ≤ n ∧ n ≤ 65535 ∧ (0 : Int) ≤ (i : Int) ∧ (i : Int) ≤ 65535 by omega)]
  constructor
  · intro h
    split at h
    · omega
    · split at h <;> omega
  · intro h
    split
    · omega
    · split <;> omega
theorem seqPlus_succ {n : Int} {i : Nat} (h1 : 0 ≤ n ∧ n ≤ 65535) (h3 : i ≤ 24) : seqPlus (seqPlus n i) 1 = seqPlus n ((i + 1 : Nat) : Int) := by
  unfold seqPlus
  rw [if_pos (show 0 ≤ n ∧ n ≤ 65535 ∧ (0 : Int) ≤ (i : Int) ∧ (i : Int) ≤ 65535 by omega), if_pos (by omega), if_pos (by omega)]
  omega
theorem spec_l23Ready_eq (q : Queue) (h : queueOk q = true) : spec_l23Ready q = some (readyN q.Next 0 q.Held : Int) := by
  have hq := queueOk_held h
  unfold spec_l23Ready
  have key : ∀ (r a : List Packet), q.Held = a ++ r → loop (spec_l23Ready_l2 q) (a.length : Int) = some (.ret (readyN q.Next a.length r : Int)) ∨ loop (spec_l23Ready_l2 q) (a.length : Int) = some (.out ()) ∧ readyN q.Next a.length r = 0 := by
    intro r
    induction r with
    | nil =>
      intro a ha
      rw [List.append_nil] at ha
      exact .inr ⟨ldone (by unfold spec_l23Ready_l2; rw [sel_no (by rw [ha]; omega)]), rfl⟩
    | cons p r ih =>
      intro a ha
      have hlen : a.length < q.Held.length := by rw [ha]; simp
      have hp : q.Held.getD a.length dPacket = p := by rw [ha]; exact getD_mid a p _ r
      have hpk := (packetOk_iff p).1 (hq.2.2.2.2.2.2 p (by rw [ha]; simp))
      have hstep : spec_l23Ready_l2 q (a.length : Int) = sel (seqGap q.Next p.Seq != (a.length : Int)) (some (.done (.ret 0))) (sel p.Last (some (.done (.ret ((a.length + 1 : Nat) : Int)))) (some (.go ((a.length + 1 : Nat) : Int)))) := by
        unfold spec_l23Ready_l2
        simp only [Int.toNat_natCast, hp]
        rw [sel_yes (by omega), req_p (by omega), spec_SeqGap_eq, bnd_s, req_p (by omega), wk (by omega) (by omega)]
        rfl
      have hg := gap_iff (n := q.Next) (s := p.Seq) (i := a.length) (by omega) (by omega) (by omega)
      by_cases e : p.Seq = seqPlus q.Next a.length
      · rw [sel_neg (by simp; exact hg.2 e)] at hstep
        by_cases e2 : p.Last = true
        · rw [sel_pos e2] at hstep
          left; rw [loop_done hstep, readyN, if_pos e, if_pos e2]
        · rw [sel_neg (by simpa using e2)] at hstep
          have := ih (a ++ [p]) (by rw [ha]; simp)
          rw [List.length_append, List.length_singleton] at this
          rw [loop_go hstep, readyN, if_pos e, if_neg e2]; exact this
      · rw [sel_pos (by simp; exact fun x => e (hg.1 x))] at hstep
        left; rw [loop_done hstep, readyN, if_neg e]; rfl
  rcases key q.Held [] rfl with e | ⟨e, e2⟩
  · simp only [List.length_nil] at e
    rw [show (0 : Int) = ((0 : Nat) : Int) from rfl, e]; rfl
  · simp only [List.length_nil] at e e2
    rw [show (0 : Int) = ((0 : Nat) : Int) from rfl, e, e2]; rfl
def skipN (next : Int) : List Packet → Nat
  | [] => 0
  | p :: r => if p.First = true ∧ p.Seq ≠ next then 0 else skipN next r + 1
theorem skipN_le (next : Int) : ∀ r : List Packet, skipN next r ≤ r.length
  | [] => by simp [skipN]
  | p :: r => by
    rw [skipN]; have := skipN_le next r
    split
    · omega
    · simp; omega
def newNext (q : Queue) : Int := if skipN q.Next q.Held < q.Held.length then (q.Held.getD (skipN q.Next q.Held) dPacket).Seq else seqPlus (q.Held.getD (q.Held.length - 1) dPacket).Seq 1
def qtick (q : Queue) (w : Int) : Queue × List Packet × Int :=
  if queueOk q = true ∧ 0 ≤ w ∧ w ≤ 20 then
    (if 0 < readyN q.Next 0 q.Held then (⟨q.Begun, seqPlus q.Next (readyN q.Next 0 q.Held), 0, q.Held.drop (readyN q.Next 0 q.Held), q.Late, q.Far, q.Twice, q.Over, q.Lost⟩, q.Held.take (readyN q.Next 0 q.Held), 1)
    else if q.Held.length = 0 then (⟨q.Begun, q.Next, 0, q.Held, q.Late, q.Far, q.Twice, q.Over, q.Lost⟩, [], 0)
    else if q.Age < w then (⟨q.Begun, q.Next, q.Age + 1, q.Held, q.Late, q.Far, q.Twice, q.Over, q.Lost⟩, [], 0)
    else (⟨q.Begun, newNext q, 0, q.Held.drop (skipN q.Next q.Held), q.Late, q.Far, q.Twice, q.Over, more q.Lost⟩, [], 2))
  else (q, [], 0)
theorem skip_spec (q : Queue) (hl : q.Held.length ≤ 24) : loop (spec_QueueTick_l2 q) 0 = some (skipN q.Next q.Held : Int) := by
  have key : ∀ (r a : List Packet), q.Held = a ++ r → loop (spec_QueueTick_l2 q) (a.length : Int) = some ((a.length + skipN q.Next r : Nat) : Int) := by
    intro r
    induction r with
    | nil =>
      intro a ha
      rw [List.append_nil] at ha
      refine ldone ?_
      unfold spec_QueueTick_l2
      rw [sel_no (by rw [ha]; omega), bnd_s, sel_f]; rfl
    | cons p r ih =>
      intro a ha
      have hlen : a.length < q.Held.length := by rw [ha]; simp
      have hp : q.Held.getD a.length dPacket = p := by rw [ha]; exact getD_mid a p _ r
      have hstep : spec_QueueTick_l2 q (a.length : Int) = sel (!(p.First && p.Seq != q.Next)) (some (.go ((a.length + 1 : Nat) : Int))) (some (.done (a.length : Int))) := by
        unfold spec_QueueTick_l2
        simp only [Int.toNat_natCast, hp]
        rw [sel_yes (by omega), req_p (by omega), req_p (by omega), req_p (by omega), req_p (by omega), wk (by omega) (by omega), sel_nor, bnd_s]
        congr 1
        cases p.First <;> simp
      by_cases e : p.First = true ∧ p.Seq ≠ q.Next
      · rw [sel_neg (by simp [e])] at hstep
        rw [loop_done hstep, skipN, if_pos e]; rfl
      · rw [sel_pos (by
          rw [Bool.not_eq_true', Bool.and_eq_false_iff]
          by_cases h1 : p.First = true
          · right; simp; exact Classical.byContradiction fun h2 => e ⟨h1, h2⟩
          · left; simpa using h1)] at hstep
        have := ih (a ++ [p]) (by rw [ha]; simp)
        rw [List.length_append, List.length_singleton] at this
        rw [loop_go hstep, skipN, if_neg e, this]
        congr 2
        omega
  have := key q.Held [] rfl
  simpa using this
theorem cut_all {α : Type} (l : List α) (k : Nat) : (l.drop k).take (l.length - k) = l.drop k := List.take_of_length_le (by rw [List.length_drop]; omega)
theorem spec_QueueTick_eq (q : Queue) (w : Int) (hl : q.Held.length ≤ 1048576) : spec_QueueTick q w = some (qtick q w) := by
  have hm : maxLen = 9223372036854775807 := rfl
  unfold spec_QueueTick qtick
  rw [spec_l23Copy_eq q hl, bnd_s, spec_QueueOk_eq, bnd_s]
  by_cases h : queueOk q = true ∧ 0 ≤ w ∧ w ≤ 20
  · rw [if_pos h, sel_pos h.1, spec_l01In_eq, bnd_s, bnd_s, sel_neg (by simpa using h.2), spec_l23Ready_eq q h.1, bnd_s]
    have hq := queueOk_held h.1
    have hr := readyN_le q.Next q.Held 0
    generalize readyN q.Next 0 q.Held = r at hr ⊢
    simp only [Int.toNat_natCast, Int.toNat_zero, List.drop_zero, List.length_nil, List.nil_append, Nat.zero_add, Nat.sub_zero, cut_all]
    by_cases hr0 : 0 < r
    · rw [if_pos hr0, sel_yes (by omega), req_p (by omega), req_p (by simp only [List.length_take]; omega), spec_SeqPlus_eq, bnd_s, req_p (by omega), req_p (by simp only [List.length_drop]; omega)]
    · rw [if_neg hr0, sel_no (by omega)]
      by_cases h0 : q.Held.length = 0
      · rw [if_pos h0, sel_pos (by simp [h0])]
      · rw [if_neg h0, sel_neg (by simpa using h0)]
        by_cases ha : q.Age < w
        · rw [if_pos ha, sel_yes ha, wk (by omega) (by omega)]
        · rw [if_neg ha, sel_no ha, skip_spec q hq.2.2.1, bnd_s]
          have hs := skipN_le q.Next q.Held
          have hn : newNext q = if skipN q.Next q.Held < q.Held.length then (q.Held.getD (skipN q.Next q.Held) dPacket).Seq else seqPlus (q.Held.getD (q.Held.length - 1) dPacket).Seq 1 := rfl
          generalize skipN q.Next q.Held = s at hs hn ⊢
          rw [spec_l23More_eq _ (cnts_each hq.2.2.2.2.2.1).2.2.2.2]
          simp only [Int.toNat_natCast, cut_all, bnd_s, hn]
          by_cases hsl : s < q.Held.length
          · rw [sel_yes (by omega), req_p (by omega), req_p (by omega), bnd_s, req_p (by omega), req_p (by simp only [List.length_drop]; omega), if_pos hsl]
          · rw [sel_no (by omega), wk (by omega) (by omega), req_p (by omega), req_p (by omega), spec_SeqPlus_eq, bnd_s, bnd_s, req_p (by omega), req_p (by simp only [List.length_drop]; omega), if_neg hsl]
            rw [show ((s : Int) - 1).toNat = q.Held.length - 1 by omega]
  · rw [if_neg h]
    cases hb : queueOk q with
    | false => rw [sel_f, bnd_s, sel_t]
    | true =>
      have h' : ¬ (0 ≤ w ∧ w ≤ 20) := fun e => h ⟨hb, e⟩
      rw [sel_t, spec_l01In_eq, bnd_s, bnd_s, sel_pos (by simp; omega)]
def tickTaken (q : Queue) (r : Nat) : Queue × List Packet × Int := (⟨q.Begun, seqPlus q.Next r, 0, q.Held.drop r, q.Late, q.Far, q.Twice, q.Over, q.Lost⟩, q.Held.take r, 1)
theorem tick_loop (q : Queue) (h : queueOk q = true) : loop (impl_QueueTick_l2 q q) 0 = some (if 0 < readyN q.Next 0 q.Held then .ret (tickTaken q (readyN q.Next 0 q.Held)) else .out ()) := by
  have hm : maxLen = 9223372036854775807 := rfl
  have hq := queueOk_held h
  have key : ∀ (r a : List Packet), q.Held = a ++ r → loop (impl_QueueTick_l2 q q) (a.length : Int) = some (if 0 < readyN q.Next a.length r then .ret (tickTaken q (readyN q.Next a.length r)) else .out ()) := by
    intro r
    induction r with
    | nil =>
      intro a ha
      rw [List.append_nil] at ha
      refine ldone ?_
      unfold impl_QueueTick_l2
      rw [sel_no (by rw [ha]; omega)]; rfl
    | cons p r ih =>
      intro a ha
      have hlen : a.length < q.Held.length := by rw [ha]; simp
      have hp : q.Held.getD a.length dPacket = p := by rw [ha]; exact getD_mid a p _ r
      have hstep : impl_QueueTick_l2 q q (a.length : Int) = sel (p.Seq != seqPlus q.Next a.length) (some (.done (.out ()))) (sel p.Last (some (.done (.ret (⟨q.Begun, seqPlus p.Seq 1, 0, q.Held.drop (a.length + 1), q.Late, q.Far, q.Twice, q.Over, q.Lost⟩, q.Held.take (a.length + 1), 1)))) (some (.go ((a.length + 1 : Nat) : Int)))) := by
        unfold impl_QueueTick_l2
        rw [wk (e := (a.length : Int) + 1) (by omega) (by omega)]
        have e1 : ((a.length : Int) + 1).toNat = a.length + 1 := by omega
        simp only [Int.toNat_natCast, hp, e1, Int.toNat_zero, List.drop_zero, List.length_nil, List.nil_append, Nat.zero_add, Nat.sub_zero, cut_all]
        rw [sel_yes (by omega), req_p (by omega), req_p (by omega), impl_SeqPlus_eq, bnd_s, req_p (by omega), req_p (by simp only [List.length_take]; omega), req_p (by omega), req_p (by simp only [List.length_drop]; omega), impl_SeqPlus_eq, bnd_s]
        rfl
      by_cases e : p.Seq = seqPlus q.Next a.length
      · rw [sel_neg (by simpa using e)] at hstep
        by_cases e2 : p.Last = true
        · rw [sel_pos e2] at hstep
          rw [loop_done hstep, readyN, if_pos e, if_pos e2, if_pos (by omega), e, seqPlus_succ (by omega) (by omega)]
          rfl
        · rw [sel_neg (by simpa using e2)] at hstep
          have := ih (a ++ [p]) (by rw [ha]; simp)
          rw [List.length_append, List.length_singleton] at this
          rw [loop_go hstep, readyN, if_pos e, if_neg e2, this]
      · rw [sel_pos (by simpa using e)] at hstep
        rw [loop_done hstep, readyN, if_neg e]; rfl
  exact key q.Held [] rfl
theorem skip_impl (q : Queue) (n : Int) (hl : q.Held.length ≤ 24) : loop (impl_QueueTick_l4 q n) 0 = some (if skipN q.Next q.Held < q.Held.length then (q.Held.getD (skipN q.Next q.Held) dPacket).Seq else n, q.Held.drop (skipN q.Next q.Held)) := by
  have hm : maxLen = 9223372036854775807 := rfl
  have key : ∀ (r a : List Packet), q.Held = a ++ r → loop (impl_QueueTick_l4 q n) (a.length : Int) = some (if a.length + skipN q.Next r < q.Held.length then (q.Held.getD (a.length + skipN q.Next r) dPacket).Seq else n, q.Held.drop (a.length + skipN q.Next r)) := by
    intro r
    induction r with
    | nil =>
      intro a ha
      rw [List.append_nil] at ha
      refine ldone ?_
      unfold impl_QueueTick_l4
      rw [sel_no (by rw [ha]; omega)]
      rw [show skipN q.Next [] = 0 from rfl, Nat.add_zero, if_neg (by rw [ha]; omega), List.drop_eq_nil_of_le (by rw [ha]; omega)]
    | cons p r ih =>
      intro a ha
      have hlen : a.length < q.Held.length := by rw [ha]; simp
      have hp : q.Held.getD a.length dPacket = p := by rw [ha]; exact getD_mid a p _ r
      have hstep : impl_QueueTick_l4 q n (a.length : Int) = sel (p.First && p.Seq != q.Next) (some (.done (p.Seq, q.Held.drop a.length))) (some (.go ((a.length + 1 : Nat) : Int))) := by
        unfold impl_QueueTick_l4
        simp only [Int.toNat_natCast, hp, List.length_nil, List.nil_append, Nat.zero_add, cut_all]
        rw [sel_yes (by omega), req_p (by omega), req_p (by omega), req_p (by simp only [List.length_drop]; omega), wk (by omega) (by omega), sel_and, bnd_s]
        rfl
      by_cases e : p.First = true ∧ p.Seq ≠ q.Next
      · rw [sel_pos (by simp [e])] at hstep
        rw [loop_done hstep, skipN, if_pos e, Nat.add_zero, if_pos hlen, hp]
      · rw [sel_neg (by
          rw [Bool.and_eq_false_iff]
          by_cases h1 : p.First = true
          · right; simp; exact Classical.byContradiction fun h2 => e ⟨h1, h2⟩
          · left; simpa using h1)] at hstep
        have := ih (a ++ [p]) (by rw [ha]; simp)
        rw [List.length_append, List.length_singleton] at this
        rw [loop_go hstep, skipN, if_neg e, this, show a.length + 1 + skipN q.Next r = a.length + (skipN q.Next r + 1) by omega]
  have := key q.Held [] rfl
  simpa using this
theorem impl_QueueTick_eq (q : Queue) (w : Int) (hl : q.Held.length ≤ 1048576) : impl_QueueTick q w = some (qtick q w) := by
  unfold impl_QueueTick qtick
  rw [impl_copyQueue_eq q hl, bnd_s, impl_QueueOk_eq, bnd_s]
  by_cases h : queueOk q = true ∧ 0 ≤ w ∧ w ≤ 20
  · rw [if_pos h, sel_pos h.1, impl_within_eq, bnd_s, bnd_s, sel_neg (by simpa using h.2), tick_loop q h.1, bnd_s]
    have hq := queueOk_held h.1
    by_cases hr0 : 0 < readyN q.Next 0 q.Held
    · rw [if_pos hr0, if_pos hr0]; rfl
    · rw [if_neg hr0, if_neg hr0]
      simp only
      by_cases h0 : q.Held.length = 0
      · rw [if_pos h0, sel_pos (by simp [h0])]
      · rw [if_neg h0, sel_neg (by simpa using h0)]
        by_cases ha : q.Age < w
        · rw [if_pos ha, sel_yes ha, wk (by omega) (by omega)]
        · rw [if_neg ha, sel_no ha, impl_counted_eq _ (cnts_each hq.2.2.2.2.2.1).2.2.2.2, bnd_s, wk (by omega) (by omega), req_p (by omega), impl_SeqPlus_eq, bnd_s, skip_impl q _ hq.2.2.1, bnd_s]
          rw [show ((q.Held.length : Int) - 1).toNat = q.Held.length - 1 by omega]
          rfl
  · rw [if_neg h]
    cases hb : queueOk q with
    | false => rw [sel_f, bnd_s, sel_t]
    | true =>
      have h' : ¬ (0 ≤ w ∧ w ≤ 20) := fun e => h ⟨hb, e⟩
      rw [sel_t, impl_within_eq, bnd_s, bnd_s, sel_pos (by simp; omega)]
def putL (n g : Int) (p : Packet) : List Packet → List Packet
  | [] => [p]
  | x :: r => if g < seqGap n x.Seq then p :: x :: r else x :: putL n g p r
def putR (n g : Int) (p : Packet) : List Packet → Bool × List Packet
  | [] => (false, [])
  | x :: r => if g < seqGap n x.Seq then (true, p :: x :: r) else ((putR n g p r).1, x :: (putR n g p r).2)
theorem putR_putL (n g : Int) (p : Packet) : ∀ r : List Packet, putL n g p r = if (putR n g p r).1 = true then (putR n g p r).2 else (putR n g p r).2 ++ [p]
  | [] => rfl
  | x :: r => by
    rw [putL, putR]
    split
    · rfl
    · rw [putR_putL n g p r]
      simp only
      split <;> simp
theorem putR_len (n g : Int) (p : Packet) : ∀ r : List Packet, (putR n g p r).2.length ≤ r.length + 1
  | [] => by simp [putR]
  | x :: r => by
    rw [putR]
    split
    · simp
    · have := putR_len n g p r; simp; omega
theorem putL_len (n g : Int) (p : Packet) : ∀ r : List Packet, (putL n g p r).length = r.length + 1
  | [] => rfl
  | x :: r => by
    rw [putL]
    split
    · rfl
    · rw [List.length_cons, putL_len n g p r]; rfl
theorem spec_l23Put_eq (q : Queue) (p : Packet) (hl : q.Held.length ≤ 24) : spec_l23Put q p = some (⟨q.Begun, q.Next, q.Age, putL q.Next (seqGap q.Next p.Seq) p q.Held, q.Late, q.Far, q.Twice, q.Over, q.Lost⟩ : Queue) := by
  have hm : maxLen = 9223372036854775807 := rfl
  unfold spec_l23Put
  rw [spec_SeqGap_eq, bnd_s]
  generalize hg : seqGap q.Next p.Seq = g
  have step : ∀ (a : List Packet) (x : Packet) (r out : List Packet) (b : Bool), q.Held = a ++ x :: r → out.length ≤ a.length + 1 → spec_l23Put_l2 q p g (b, (a.length : Int), out) = some (.go (if b = true then (true, ((a.length + 1 : Nat) : Int), out ++ [x]) else if g < seqGap q.Next x.Seq then (true, ((a.length + 1 : Nat) : Int), out ++ [p] ++ [x]) else (false, ((a.length + 1 : Nat) : Int), out ++ [x]))) := by
    intro a x r out b ha ho
    have hlen : a.length < q.Held.length := by rw [ha]; simp
    have hx : q.Held.getD a.length dPacket = x := by rw [ha]; exact getD_mid a x _ r
    unfold spec_l23Put_l2
    simp only [Int.toNat_natCast, hx]
    rw [sel_yes (by omega), req_p (c := 0 ≤ (a.length : Int) ∧ _) (by omega), spec_SeqGap_eq, bnd_s, wk (by omega) (by omega)]
    cases b with
    | true => rw [sel_t, bnd_s, sel_f, bnd_s, req_p (by omega), req_p (by simp only [List.length_singleton]; omega)]; rfl
    | false =>
      rw [sel_f, bnd_s, sel_d]
      by_cases h : g < seqGap q.Next x.Seq
      · rw [if_pos (show seqGap q.Next x.Seq > g from h), req_p (by simp only [List.length_singleton]; omega), bnd_s, req_p (by omega), req_p (by simp only [List.length_append, List.length_singleton]; omega), if_neg (by decide), if_pos h]; rfl
      · rw [if_neg (show ¬ seqGap q.Next x.Seq > g from h), bnd_s, req_p (by omega), req_p (by simp only [List.length_singleton]; omega), if_neg (by decide), if_neg h]; rfl
  have fin : ∀ (b : Bool) (out : List Packet), spec_l23Put_l2 q p g (b, (q.Held.length : Int), out) = some (.done (b, out)) := by
    intro b out; unfold spec_l23Put_l2; simp only; rw [sel_no (by omega)]
  have key1 : ∀ (r a out : List Packet), q.Held = a ++ r → out.length ≤ a.length + 1 → loop (spec_l23Put_l2 q p g) (true, (a.length : Int), out) = some (true, out ++ r) := by
    intro r
    induction r with
    | nil => intro a out ha _; rw [List.append_nil] at ha; rw [← ha, loop_done (fin _ _), List.append_nil]
    | cons x r ih =>
      intro a out ha ho
      rw [loop_go (step a x r out true ha ho), if_pos rfl]
      have := ih (a ++ [x]) (out ++ [x]) (by rw [ha]; simp) (by simp; omega)
      rw [List.length_append, List.length_singleton] at this
      rw [this]; simp
  have key : ∀ (r a out : List Packet), q.Held = a ++ r → out.length ≤ a.length → loop (spec_l23Put_l2 q p g) (false, (a.length : Int), out) = some ((putR q.Next g p r).1, out ++ (putR q.Next g p r).2) := by
    intro r
    induction r with
    | nil => intro a out ha _; rw [List.append_nil] at ha; rw [← ha, loop_done (fin _ _)]; simp [putR]
    | cons x r ih =>
      intro a out ha ho
      rw [loop_go (step a x r out false ha (by omega)), if_neg (by decide), putR]
      by_cases h : g < seqGap q.Next x.Seq
      · rw [if_pos h, if_pos h]
        have := key1 r (a ++ [x]) (out ++ [p] ++ [x]) (by rw [ha]; simp) (by simp; omega)
        rw [List.length_append, List.length_singleton] at this
        rw [this]; simp
      · rw [if_neg h, if_neg h]
        have := ih (a ++ [x]) (out ++ [x]) (by rw [ha]; simp) (by simp; omega)
        rw [List.length_append, List.length_singleton] at this
        rw [this]; simp
  have := key q.Held [] [] rfl (by simp)
  simp only [List.length_nil, List.nil_append] at this
  rw [show (((false : Bool), (0 : Int), ([] : List Packet))) = (false, ((0 : Nat) : Int), []) from rfl, this, bnd_s, putR_putL]
  have hlen := putR_len q.Next g p q.Held
  cases h : (putR q.Next g p q.Held).1 with
  | true => rfl
  | false =>
    simp only [Bool.not_false, sel_t]
    rw [req_p (by simp only [List.length_singleton]; omega)]
    rfl
def holdN (n g : Int) : List Packet → Nat
  | [] => 0
  | x :: r => if seqGap n x.Seq < g then holdN n g r + 1 else 0
theorem holdN_le (n g : Int) : ∀ r : List Packet, holdN n g r ≤ r.length
  | [] => by simp [holdN]
  | x :: r => by
    rw [holdN]; have := holdN_le n g r
    split
    · simp; omega
    · omega
theorem put_hold (n g : Int) (p : Packet) : ∀ r : List Packet, (∀ x ∈ r, seqGap n x.Seq ≠ g) → putL n g p r = r.take (holdN n g r) ++ [p] ++ r.drop (holdN n g r)
  | [], _ => rfl
  | x :: r, h => by
    have h1 := h x (by simp)
    rw [putL, holdN]
    by_cases e : seqGap n x.Seq < g
    · rw [if_pos e, if_neg (by omega), put_hold n g p r (fun y hy => h y (by simp [hy]))]
      simp
    · rw [if_neg e, if_pos (by omega)]; rfl
theorem impl_hold_eq (q : Queue) (p : Packet) (hl : q.Held.length ≤ 24) : impl_Queue_hold_d q p = some (⟨q.Begun, q.Next, q.Age, q.Held.take (holdN q.Next (seqGap q.Next p.Seq) q.Held) ++ [p] ++ q.Held.drop (holdN q.Next (seqGap q.Next p.Seq) q.Held), q.Late, q.Far, q.Twice, q.Over, q.Lost⟩ : Queue) := by
  have hm : maxLen = 9223372036854775807 := rfl
  unfold impl_Queue_hold_d
  generalize hg : seqGap q.Next p.Seq = g
  have key : ∀ (r a : List Packet), q.Held = a ++ r → loop (impl_Queue_hold_d_l2 q p) (a.length : Int) = some ((a.length + holdN q.Next g r : Nat) : Int) := by
    intro r
    induction r with
    | nil =>
      intro a ha
      rw [List.append_nil] at ha
      refine ldone ?_
      unfold impl_Queue_hold_d_l2
      rw [sel_no (by rw [ha]; omega), bnd_s, sel_f]; rfl
    | cons x r ih =>
      intro a ha
      have hlen : a.length < q.Held.length := by rw [ha]; simp
      have hx : q.Held.getD a.length dPacket = x := by rw [ha]; exact getD_mid a x _ r
      have hstep : impl_Queue_hold_d_l2 q p (a.length : Int) = sel (decide (seqGap q.Next x.Seq < g)) (some (.go ((a.length + 1 : Nat) : Int))) (some (.done (a.length : Int))) := by
        unfold impl_Queue_hold_d_l2
        simp only [Int.toNat_natCast, hx]
        rw [sel_yes (by omega), req_p (by omega), req_p (by omega), impl_SeqGap_eq, bnd_s, impl_SeqGap_eq, bnd_s, bnd_s, hg, wk (by omega) (by omega)]
        rfl
      rw [holdN]
      by_cases e : seqGap q.Next x.Seq < g
      · rw [sel_yes e] at hstep
        have := ih (a ++ [x]) (by rw [ha]; simp)
        rw [List.length_append, List.length_singleton] at this
        rw [loop_go hstep, this, if_pos e]
        congr 2
        omega
      · rw [sel_no e] at hstep
        rw [loop_done hstep, if_neg e]; rfl
  have := key q.Held [] rfl
  simp only [List.length_nil, Nat.zero_add] at this
  rw [show (0 : Int) = ((0 : Nat) : Int) from rfl, this, bnd_s]
  have hn := holdN_le q.Next g q.Held
  generalize holdN q.Next g q.Held = k at hn ⊢
  simp only [Int.toNat_natCast, List.drop_zero, List.length_nil, List.nil_append, Nat.zero_add, Nat.sub_zero, cut_all]
  rw [req_p (by omega), req_p (by simp only [List.length_take]; omega), req_p (by simp only [List.length_take, List.length_singleton]; omega), req_p (by omega), req_p (by simp only [List.length_take, List.length_append, List.length_drop, List.length_singleton]; omega)]
noncomputable def lastN (q : Queue) : Int := (loop (spec_QueueIn_l2 q) 0).getD 0
theorem lastN_spec (q : Queue) (h0 : 0 < q.Held.length) (hl : q.Held.length ≤ 24) : loop (spec_QueueIn_l2 q) 0 = some (lastN q) ∧ 0 ≤ lastN q ∧ lastN q < q.Held.length := by
  obtain ⟨o, h, h1, h2⟩ := loop_inv (f := spec_QueueIn_l2 q) (fun v => 0 ≤ v ∧ v < q.Held.length) (fun v => q.Held.length - v.toNat) (fun _ o => 0 ≤ o ∧ o < q.Held.length) (by
    intro v ⟨h1, h2⟩
    unfold spec_QueueIn_l2
    rw [wk (by omega) (by omega)]
    by_cases hv : v < (q.Held.length : Int) - 1
    · rw [sel_yes hv, req_p (by omega), req_p (by omega), bnd_s, sel_n, wk (by omega) (by omega)]
      cases (q.Held.getD v.toNat dPacket).Last with
      | true => exact .inl ⟨_, rfl, h1, h2⟩
      | false => exact .inr ⟨_, rfl, by omega, by omega, fun _ h => h⟩
    · rw [sel_no hv, bnd_s, sel_f]
      exact .inl ⟨_, rfl, h1, h2⟩) 0 (by omega)
  unfold lastN; rw [h]; exact ⟨rfl, h1, h2⟩
theorem lastN_impl (q : Queue) (h0 : 0 < q.Held.length) (hl : q.Held.length ≤ 24) : loop (impl_QueueIn_l4 q) 0 = some (lastN q) := by
  rw [← (lastN_spec q h0 hl).1]
  have : impl_QueueIn_l4 q = spec_QueueIn_l2 q := by
    funext v
    unfold impl_QueueIn_l4 spec_QueueIn_l2
    congr 1
    by_cases h : v < wrapK .i64 ((q.Held.length : Int) - 1)
    · rw [sel_yes h, sel_yes h]
      by_cases h2 : 0 ≤ v ∧ v < q.Held.length
      · rw [req_p h2, req_p h2, req_p (by omega)]
      · unfold req; rw [if_neg h2, if_neg h2]
    · rw [sel_no h, sel_no h]
  rw [this]
def putQ (q : Queue) (p : Packet) : Queue := ⟨q.Begun, q.Next, q.Age, putL q.Next (seqGap q.Next p.Seq) p q.Held, q.Late, q.Far, q.Twice, q.Over, q.Lost⟩
noncomputable def cutQ (q : Queue) : Queue := ⟨q.Begun, seqPlus (q.Held.getD (lastN q).toNat dPacket).Seq 1, 0, q.Held.drop ((lastN q).toNat + 1), q.Late, q.Far, q.Twice, more q.Over, q.Lost⟩
noncomputable def qin (q : Queue) (p : Packet) : Queue × Int :=
  if queueOk q = true then
    if packetOk p = true then
      if q.Begun = true then
        if seqGap q.Next p.Seq ≥ 40 ∨ seqGap q.Next p.Seq < -40 then (⟨q.Begun, p.Seq, 0, [p], q.Late, more q.Far, q.Twice, q.Over, q.Lost⟩, 4)
        else if seqGap q.Next p.Seq < 0 then (⟨q.Begun, q.Next, q.Age, q.Held, more q.Late, q.Far, q.Twice, q.Over, q.Lost⟩, 3)
        else if hasSeq p.Seq q.Held = true then (⟨q.Begun, q.Next, q.Age, q.Held, q.Late, q.Far, more q.Twice, q.Over, q.Lost⟩, 5)
        else if q.Held.length < 24 then (putQ q p, 0)
        else (if 0 ≤ seqGap (cutQ q).Next p.Seq ∧ seqGap (cutQ q).Next p.Seq ≤ 39 then putQ (cutQ q) p else cutQ q, 6)
      else (⟨true, p.Seq, 0, [p], 0, 0, 0, 0, 0⟩, 0)
    else (q, 2)
  else (q, 1)
theorem spec_QueueIn_eq (q : Queue) (p : Packet) (hl : q.Held.length ≤ 1048576) : spec_QueueIn q p = some (qin q p) := by
  have hm : maxLen = 9223372036854775807 := rfl
  unfold spec_QueueIn qin
  rw [spec_l23Copy_eq q hl, bnd_s, spec_QueueOk_eq, bnd_s, sel_n]
  cases hok : queueOk q with
  | false => rfl
  | true =>
    have hq := queueOk_held hok
    have hc := cnts_each hq.2.2.2.2.2.1
    rw [sel_t, if_pos rfl, spec_PacketOk_eq, bnd_s, sel_n]
    cases hpk : packetOk p with
    | false => rfl
    | true =>
      rw [sel_t, if_pos rfl, sel_n]
      cases hb : q.Begun with
      | false => rfl
      | true =>
        rw [sel_t, if_pos rfl, spec_SeqGap_eq, bnd_s, sel_or, bnd_s]
        generalize hg : seqGap q.Next p.Seq = g
        by_cases h1 : g ≥ 40 ∨ g < -40
        · rw [if_pos h1, sel_pos (by simpa using h1), spec_l23More_eq _ hc.2.1, bnd_s]
        rw [if_neg h1, sel_neg (by simp; omega)]
        by_cases h2 : g < 0
        · rw [if_pos h2, sel_yes h2, spec_l23More_eq _ hc.1, bnd_s]
        rw [if_neg h2, sel_no h2, spec_QueueHas_eq, bnd_s, hok, Bool.true_and]
        cases h3 : hasSeq p.Seq q.Held with
        | true => rw [sel_t, if_pos rfl, spec_l23More_eq _ hc.2.2.1, bnd_s]
        | false =>
          rw [sel_f, if_neg (by decide)]
          by_cases h4 : q.Held.length < 24
          · rw [if_pos h4, sel_yes (by omega), spec_l23Put_eq q p hq.2.2.1, bnd_s]; unfold putQ; rw [hb]
          rw [if_neg h4, sel_no (by omega)]
          obtain ⟨l1, l2, l3⟩ := lastN_spec q (by omega) hq.2.2.1
          rw [l1, bnd_s, spec_l23More_eq _ hc.2.2.2.1, bnd_s, req_p (by omega), req_p (by omega), spec_SeqPlus_eq, bnd_s, wk (by omega) (by omega), req_p (by omega), Int.toNat_natCast, show (lastN q + 1).toNat = (lastN q).toNat + 1 by omega, cut_all]
          rw [req_p (by simp only [List.length_nil, List.length_drop]; omega), spec_SeqGap_eq, bnd_s, spec_l01In_eq, bnd_s, List.nil_append, sel_d]
          have hcut : (⟨true, seqPlus (q.Held.getD (lastN q).toNat dPacket).Seq 1, 0, q.Held.drop ((lastN q).toNat + 1), q.Late, q.Far, q.Twice, more q.Over, q.Lost⟩ : Queue) = cutQ q := by unfold cutQ; rw [hb]
          rw [hcut]
          have hn : seqPlus (q.Held.getD (lastN q).toNat dPacket).Seq 1 = (cutQ q).Next := rfl
          rw [hn]
          by_cases h5 : 0 ≤ seqGap (cutQ q).Next p.Seq ∧ seqGap (cutQ q).Next p.Seq ≤ 39
          · rw [if_pos h5, if_pos h5, spec_l23Put_eq (cutQ q) p (by unfold cutQ; simp only [List.length_drop]; omega), bnd_s, bnd_s]; rfl
          · rw [if_neg h5, if_neg h5, bnd_s]; unfold cutQ; rw [hb]
theorem seqGap_inj {n a b : Int} (hn : 0 ≤ n ∧ n ≤ 65535) (ha : 0 ≤ a ∧ a ≤ 65535) (hb : 0 ≤ b ∧ b ≤ 65535) (h : seqGap n a = seqGap n b) : a = b := by
  unfold seqGap at h
  rw [if_pos (show 0 ≤ n ∧ n ≤ 65535 ∧ 0 ≤ a ∧ a ≤ 65535 by omega), if_pos (show 0 ≤ n ∧ n ≤ 65535 ∧ 0 ≤ b ∧ b ≤ 65535 by omega)] at h
  repeat' split at h
  all_goals omega
theorem seqPlus_in (a b : Int) : 0 ≤ seqPlus a b ∧ seqPlus a b ≤ 65535 := by
  unfold seqPlus; split <;> omega
theorem hold_put (q : Queue) (p : Packet) (hl : q.Held.length ≤ 24) (hn : 0 ≤ q.Next ∧ q.Next ≤ 65535) (hh : ∀ x ∈ q.Held, packetOk x = true) (hp : packetOk p = true) (hs : hasSeq p.Seq q.Held = false) : impl_Queue_hold_d q p = some (putQ q p) := by
  rw [impl_hold_eq q p hl]
  unfold putQ
  rw [put_hold]
  intro x hx e
  have h1 := (packetOk_iff x).1 (hh x hx)
  have h2 := (packetOk_iff p).1 hp
  have := seqGap_inj hn (by omega) (by omega) e
  have : hasSeq p.Seq q.Held = true := by
    unfold hasSeq; rw [List.any_eq_true]; exact ⟨x, hx, by simpa using this⟩
  rw [hs] at this; cases this
theorem impl_QueueIn_eq (q : Queue) (p : Packet) (hl : q.Held.length ≤ 1048576) : impl_QueueIn q p = some (qin q p) := by
  have hm : maxLen = 9223372036854775807 := rfl
  unfold impl_QueueIn qin
  rw [impl_copyQueue_eq q hl, bnd_s, impl_QueueOk_eq, bnd_s, sel_n]
  cases hok : queueOk q with
  | false => rfl
  | true =>
    have hq := queueOk_held hok
    have hc := cnts_each hq.2.2.2.2.2.1
    rw [sel_t, if_pos rfl, impl_PacketOk_eq, bnd_s, sel_n]
    cases hpk : packetOk p with
    | false => rfl
    | true =>
      rw [sel_t, if_pos rfl, sel_n]
      cases hb : q.Begun with
      | false =>
        unfold queueOk at hok
        rw [if_neg (by simp [hb]), decide_eq_true_eq] at hok
        obtain ⟨z1, z2, z3, z4, z5, z6, z7, z8⟩ := hok
        rw [sel_f, if_neg (by decide), z2, z4, z5, z6, z7, z8]
      | true =>
        rw [sel_t, if_pos rfl, impl_SeqGap_eq, bnd_s, sel_or, bnd_s]
        generalize hg : seqGap q.Next p.Seq = g
        by_cases h1 : g ≥ 40 ∨ g < -40
        · rw [if_pos h1, sel_pos (by simpa using h1), impl_counted_eq _ hc.2.1, bnd_s]
        rw [if_neg h1, sel_neg (by simp; omega)]
        by_cases h2 : g < 0
        · rw [if_pos h2, sel_yes h2, impl_counted_eq _ hc.1, bnd_s]
        rw [if_neg h2, sel_no h2, impl_QueueHas_eq, bnd_s, hok, Bool.true_and]
        cases h3 : hasSeq p.Seq q.Held with
        | true => rw [sel_t, if_pos rfl, impl_counted_eq _ hc.2.2.1, bnd_s]
        | false =>
          rw [sel_f, if_neg (by decide)]
          by_cases h4 : q.Held.length < 24
          · rw [if_pos h4, sel_neg (by simp; omega), hold_put q p hq.2.2.1 (by omega) hq.2.2.2.2.2.2 hpk h3, bnd_s]
          rw [if_neg h4, sel_pos (by simp; omega)]
          obtain ⟨l1, l2, l3⟩ := lastN_spec q (by omega) hq.2.2.1
          rw [impl_counted_eq _ hc.2.2.2.1, bnd_s, lastN_impl q (by omega) hq.2.2.1, bnd_s, req_p (by omega), impl_SeqPlus_eq, bnd_s, wk (by omega) (by omega), req_p (by omega), Int.toNat_natCast, show (lastN q + 1).toNat = (lastN q).toNat + 1 by omega, cut_all]
          rw [impl_SeqGap_eq, bnd_s, impl_within_eq, bnd_s, sel_d]
          have hcut : (⟨true, seqPlus (q.Held.getD (lastN q).toNat dPacket).Seq 1, 0, q.Held.drop ((lastN q).toNat + 1), q.Late, q.Far, q.Twice, more q.Over, q.Lost⟩ : Queue) = cutQ q := by unfold cutQ; rw [hb]
          rw [hcut]
          have hn : seqPlus (q.Held.getD (lastN q).toNat dPacket).Seq 1 = (cutQ q).Next := rfl
          rw [hn]
          by_cases h5 : 0 ≤ seqGap (cutQ q).Next p.Seq ∧ seqGap (cutQ q).Next p.Seq ≤ 39
          · have hs : hasSeq p.Seq (cutQ q).Held = false := by
              rw [Bool.eq_false_iff] at h3 ⊢
              intro e; apply h3
              unfold hasSeq at e ⊢
              rw [List.any_eq_true] at e ⊢
              obtain ⟨x, hx, e⟩ := e
              exact ⟨x, List.mem_of_mem_drop hx, e⟩
            rw [if_pos h5, if_pos h5, hold_put (cutQ q) p (by unfold cutQ; simp only [List.length_drop]; omega) (seqPlus_in _ _) (fun x hx => hq.2.2.2.2.2.2 x (List.mem_of_mem_drop hx)) hpk hs, bnd_s, bnd_s]
          · rw [if_neg h5, if_neg h5, bnd_s]; unfold cutQ; rw [hb]
theorem gap_shift {n y : Int} {k : Nat} (hn : 0 ≤ n ∧ n ≤ 65535) (hy : 0 ≤ y ∧ y ≤ 65535) (h1 : (k : Int) ≤ seqGap n y) (h2 : seqGap n y < 41) : seqGap (seqPlus n k) y = seqGap n y - k := by
  unfold seqGap at h1 h2 ⊢
  unfold seqPlus
  rw [if_pos (show 0 ≤ n ∧ n ≤ 65535 ∧ 0 ≤ y ∧ y ≤ 65535 by omega)] at h1 h2 ⊢
  have hk : (k : Int) ≤ 40 := by
    repeat' split at h1
    all_goals (repeat' split at h2)
    all_goals omega
  rw [if_pos (show 0 ≤ n ∧ n ≤ 65535 ∧ (0 : Int) ≤ (k : Int) ∧ (k : Int) ≤ 65535 by omega), if_pos (by omega)]
  repeat' split at h1
  all_goals (repeat' split at h2)
  all_goals (repeat' split)
  all_goals omega
theorem heldOk_shift {n : Int} {k : Nat} (hn : 0 ≤ n ∧ n ≤ 65535) : ∀ {l : List Packet} {last : Int}, (k : Int) - 1 ≤ last → heldOk n last l = true → heldOk (seqPlus n k) (last - k) l = true
  | [], _, _, _ => rfl
  | p :: r, last, hl, h => by
    rw [heldOk, Bool.and_eq_true, Bool.and_eq_true, decide_eq_true_eq] at h ⊢
    have hp := (packetOk_iff p).1 h.1.1
    have e := gap_shift (k := k) hn (y := p.Seq) (by omega) (by omega) (by omega)
    rw [e]
    exact ⟨⟨h.1.1, by omega⟩, heldOk_shift hn (by omega) h.2⟩
theorem heldOk_drop {n : Int} : ∀ {l : List Packet} {last : Int} (k : Nat) (hk : k < l.length), heldOk n last l = true → last < seqGap n (l.getD k dPacket).Seq ∧ heldOk n (seqGap n (l.getD k dPacket).Seq) (l.drop (k + 1)) = true ∧ seqGap n (l.getD k dPacket).Seq < 40
  | [], _, k, hk, _ => by simp at hk
  | p :: r, last, 0, _, h => by
    rw [heldOk, Bool.and_eq_true, Bool.and_eq_true, decide_eq_true_eq] at h
    exact ⟨h.1.2.1, h.2, h.1.2.2⟩
  | p :: r, last, k + 1, hk, h => by
    rw [heldOk, Bool.and_eq_true, Bool.and_eq_true, decide_eq_true_eq] at h
    obtain ⟨h1, h2, h3⟩ := heldOk_drop (l := r) k (by simpa using hk) h.2
    exact ⟨by rw [List.getD_cons_succ]; omega, by rw [List.getD_cons_succ]; exact h2, by rw [List.getD_cons_succ]; exact h3⟩
theorem seq_of_gap {n : Int} {p : Packet} {k : Nat} (hn : 0 ≤ n ∧ n ≤ 65535) (hp : packetOk p = true) (h : seqGap n p.Seq = k) (hk : k ≤ 40) : p.Seq = seqPlus n k := by
  have h2 := (packetOk_iff p).1 hp
  unfold seqGap at h
  unfold seqPlus
  rw [if_pos (show 0 ≤ n ∧ n ≤ 65535 ∧ 0 ≤ p.Seq ∧ p.Seq ≤ 65535 by omega)] at h
  rw [if_pos (by omega)]
  repeat' split at h
  all_goals omega
theorem seqPlus_one {n : Int} {k : Nat} (hn : 0 ≤ n ∧ n ≤ 65535) (hk : k ≤ 40) : seqPlus (seqPlus n k) 1 = seqPlus n ((k + 1 : Nat) : Int) := by
  unfold seqPlus
  rw [if_pos (show 0 ≤ n ∧ n ≤ 65535 ∧ (0 : Int) ≤ (k : Int) ∧ (k : Int) ≤ 65535 by omega), if_pos (by omega), if_pos (by omega)]
  omega
theorem cnt_more {n : Int} (h : cnt n = true) : cnt (more n) = true := by
  unfold cnt more at *
  simp only [decide_eq_true_eq] at *
  split <;> omega
theorem queueOk_begun {q : Queue} (hb : q.Begun = true) : queueOk q = true ↔ (0 ≤ q.Next ∧ q.Next ≤ 65535 ∧ 0 ≤ q.Age ∧ q.Age ≤ 20 ∧ q.Held.length ≤ 24) ∧ heldOk q.Next (-1) q.Held = true ∧ cnts q = true := by
  unfold queueOk
  rw [if_pos hb, Bool.and_eq_true, Bool.and_eq_true, decide_eq_true_eq]
theorem cnts_of {q : Queue} (h1 : cnt q.Late = true) (h2 : cnt q.Far = true) (h3 : cnt q.Twice = true) (h4 : cnt q.Over = true) (h5 : cnt q.Lost = true) : cnts q = true := by
  unfold cnts; rw [h1, h2, h3, h4, h5]; rfl
theorem heldOk_one {p : Packet} (h : packetOk p = true) : heldOk p.Seq (-1) [p] = true := by
  have h2 := (packetOk_iff p).1 h
  have e : seqGap p.Seq p.Seq = 0 := by
    unfold seqGap; rw [if_pos (by omega), if_neg (by omega), if_neg (by omega)]; omega
  rw [heldOk, e, h]; rfl
theorem heldOk_put {n g : Int} {p : Packet} (hp : packetOk p = true) (hg : seqGap n p.Seq = g) (h40 : g < 40) : ∀ {l : List Packet} {last : Int}, last < g → (∀ x ∈ l, seqGap n x.Seq ≠ g) → heldOk n last l = true → heldOk n last (putL n g p l) = true
  | [], last, hl, _, _ => by
    rw [putL, heldOk, hg, hp]; simp [heldOk, hl, h40]
  | x :: r, last, hl, hne, h => by
    have h0 := h
    rw [heldOk, Bool.and_eq_true, Bool.and_eq_true, decide_eq_true_eq] at h
    rw [putL]
    have h1 := hne x (by simp)
    by_cases e : g < seqGap n x.Seq
    · rw [if_pos e, heldOk, hg, Bool.and_eq_true, Bool.and_eq_true, decide_eq_true_eq]
      refine ⟨⟨hp, hl, h40⟩, ?_⟩
      rw [heldOk, Bool.and_eq_true, Bool.and_eq_true, decide_eq_true_eq]
      exact ⟨⟨h.1.1, e, h.1.2.2⟩, h.2⟩
    · rw [if_neg e, heldOk, Bool.and_eq_true, Bool.and_eq_true, decide_eq_true_eq]
      exact ⟨⟨h.1.1, h.1.2⟩, heldOk_put hp hg h40 (by omega) (fun y hy => hne y (by simp [hy])) h.2⟩
theorem no_gap {q : Queue} {p : Packet} (hn : 0 ≤ q.Next ∧ q.Next ≤ 65535) (hh : ∀ x ∈ q.Held, packetOk x = true) (hp : packetOk p = true) (hs : hasSeq p.Seq q.Held = false) : ∀ x ∈ q.Held, seqGap q.Next x.Seq ≠ seqGap q.Next p.Seq := by
  intro x hx e
  have h1 := (packetOk_iff x).1 (hh x hx)
  have h2 := (packetOk_iff p).1 hp
  have := seqGap_inj hn (by omega) (by omega) e
  have : hasSeq p.Seq q.Held = true := by
    unfold hasSeq; rw [List.any_eq_true]; exact ⟨x, hx, by simpa using this⟩
  rw [hs] at this; cases this
theorem putQ_ok {q : Queue} {p : Packet} (hb : q.Begun = true) (h : queueOk q = true) (hp : packetOk p = true) (hs : hasSeq p.Seq q.Held = false) (hl : q.Held.length < 24) (hg : 0 ≤ seqGap q.Next p.Seq ∧ seqGap q.Next p.Seq < 40) : queueOk (putQ q p) = true := by
  have hq := queueOk_held h
  have h' := (queueOk_begun hb).1 h
  refine (queueOk_begun (q := putQ q p) hb).2 ⟨⟨h'.1.1, h'.1.2.1, h'.1.2.2.1, h'.1.2.2.2.1, ?_⟩, ?_, ?_⟩
  · show (putL _ _ _ _).length ≤ 24
    rw [putL_len]; omega
  · exact heldOk_put hp rfl hg.2 (by omega) (no_gap (by omega) hq.2.2.2.2.2.2 hp hs) h'.2.1
  · exact h'.2.2
theorem cutQ_ok {q : Queue} (hb : q.Begun = true) (h : queueOk q = true) (hl : q.Held.length = 24) : queueOk (cutQ q) = true ∧ (cutQ q).Held.length < 24 := by
  have hq := queueOk_held h
  have hc := cnts_each hq.2.2.2.2.2.1
  have h' := (queueOk_begun hb).1 h
  obtain ⟨_, l2, l3⟩ := lastN_spec q (by omega) hq.2.2.1
  have hlen : (cutQ q).Held.length < 24 := by show (q.Held.drop _).length < 24; rw [List.length_drop]; omega
  obtain ⟨d1, d2, d3⟩ := heldOk_drop (lastN q).toNat (by omega) h'.2.1
  have hpk := hq.2.2.2.2.2.2 (q.Held.getD (lastN q).toNat dPacket) (by rw [getD_at _ _ (by omega)]; exact List.getElem_mem _)
  refine ⟨(queueOk_begun (q := cutQ q) hb).2 ⟨⟨(seqPlus_in _ _).1, (seqPlus_in _ _).2, by show (0 : Int) ≤ 0; decide, by show (0 : Int) ≤ 20; decide, by omega⟩, ?_, cnts_of (q := cutQ q) hc.1 hc.2.1 hc.2.2.1 (cnt_more hc.2.2.2.1) hc.2.2.2.2⟩, hlen⟩
  show heldOk (seqPlus (q.Held.getD (lastN q).toNat dPacket).Seq 1) (-1) (q.Held.drop ((lastN q).toNat + 1)) = true
  generalize q.Held.getD (lastN q).toNat dPacket = x at d1 d2 d3 hpk ⊢
  obtain ⟨k, hk⟩ : ∃ k : Nat, seqGap q.Next x.Seq = k := ⟨(seqGap q.Next x.Seq).toNat, by omega⟩
  rw [seq_of_gap (by omega) hpk hk (by omega), seqPlus_one (by omega) (by omega)]
  rw [hk] at d2
  have := heldOk_shift (k := k + 1) (by omega) (by omega) d2
  rw [show ((k : Int)) - ((k + 1 : Nat) : Int) = -1 by omega] at this
  exact this
theorem qin_ok {q : Queue} {p : Packet} (h : queueOk q = true) : queueOk (qin q p).1 = true := by
  have hq := queueOk_held h
  have hc := cnts_each hq.2.2.2.2.2.1
  unfold qin
  rw [if_pos h]
  by_cases hp : packetOk p = true
  · rw [if_pos hp]
    have hpk := (packetOk_iff p).1 hp
    by_cases hb : q.Begun = true
    · rw [if_pos hb]
      have h' := (queueOk_begun hb).1 h
      by_cases h1 : seqGap q.Next p.Seq ≥ 40 ∨ seqGap q.Next p.Seq < -40
      · rw [if_pos h1]
        exact (queueOk_begun (q := ⟨q.Begun, p.Seq, 0, [p], q.Late, more q.Far, q.Twice, q.Over, q.Lost⟩) hb).2 ⟨⟨by simp only; omega, by simp only; omega, Int.le_refl _, (by decide : (0 : Int) ≤ 20), by simp⟩, heldOk_one hp, cnts_of hc.1 (cnt_more hc.2.1) hc.2.2.1 hc.2.2.2.1 hc.2.2.2.2⟩
      rw [if_neg h1]
      by_cases h2 : seqGap q.Next p.Seq < 0
      · rw [if_pos h2]
        exact (queueOk_begun (q := ⟨q.Begun, q.Next, q.Age, q.Held, more q.Late, q.Far, q.Twice, q.Over, q.Lost⟩) hb).2 ⟨h'.1, h'.2.1, cnts_of (cnt_more hc.1) hc.2.1 hc.2.2.1 hc.2.2.2.1 hc.2.2.2.2⟩
      rw [if_neg h2]
      by_cases h3 : hasSeq p.Seq q.Held = true
      · rw [if_pos h3]
        exact (queueOk_begun (q := ⟨q.Begun, q.Next, q.Age, q.Held, q.Late, q.Far, more q.Twice, q.Over, q.Lost⟩) hb).2 ⟨h'.1, h'.2.1, cnts_of hc.1 hc.2.1 (cnt_more hc.2.2.1) hc.2.2.2.1 hc.2.2.2.2⟩
      rw [if_neg h3]
      have h3' : hasSeq p.Seq q.Held = false := by simpa using h3
      by_cases h4 : q.Held.length < 24
      · rw [if_pos h4]
        exact putQ_ok hb h hp h3' h4 (by omega)
      rw [if_neg h4]
      obtain ⟨c1, c2⟩ := cutQ_ok hb h (by omega)
      by_cases h5 : 0 ≤ seqGap (cutQ q).Next p.Seq ∧ seqGap (cutQ q).Next p.Seq ≤ 39
      · rw [if_pos h5]
        have hs : hasSeq p.Seq (cutQ q).Held = false := by
          rw [Bool.eq_false_iff] at h3' ⊢
          intro e; apply h3'
          unfold hasSeq at e ⊢
          rw [List.any_eq_true] at e ⊢
          obtain ⟨x, hx, e⟩ := e
          exact ⟨x, List.mem_of_mem_drop hx, e⟩
        exact putQ_ok hb c1 hp hs c2 (by omega)
      · rw [if_neg h5]; exact c1
    · rw [if_neg hb]
      exact (queueOk_begun (q := ⟨true, p.Seq, 0, [p], 0, 0, 0, 0, 0⟩) rfl).2 ⟨⟨by simp only; omega, by simp only; omega, Int.le_refl _, (by decide : (0 : Int) ≤ 20), by simp⟩, heldOk_one hp, rfl⟩
  · rw [if_neg hp]; exact h
theorem ready_gap {n : Int} (hn : 0 ≤ n ∧ n ≤ 65535) : ∀ {l : List Packet} {i : Nat}, i + l.length ≤ 24 → heldOk n ((i : Int) - 1) l = true → 0 < readyN n i l → i < readyN n i l ∧ heldOk n ((readyN n i l : Int) - 1) (l.drop (readyN n i l - i)) = true
  | [], i, _, _, h => by simp [readyN] at h
  | p :: r, i, hi, h, h0 => by
    rw [readyN] at h0 ⊢
    rw [heldOk, Bool.and_eq_true, Bool.and_eq_true, decide_eq_true_eq] at h
    have hp := (packetOk_iff p).1 h.1.1
    have hl : (p :: r).length = r.length + 1 := rfl
    by_cases e : p.Seq = seqPlus n i
    · rw [if_pos e] at h0 ⊢
      have hg : seqGap n p.Seq = i := (gap_iff (by omega) (by omega) (by omega)).2 e
      rw [hg] at h
      by_cases e2 : p.Last = true
      · rw [if_pos e2]
        refine ⟨by omega, ?_⟩
        rw [show i + 1 - i = 1 by omega, List.drop_succ_cons, List.drop_zero, show ((i + 1 : Nat) : Int) - 1 = i by omega]
        exact h.2
      · rw [if_neg e2] at h0 ⊢
        obtain ⟨a, b⟩ := ready_gap hn (l := r) (i := i + 1) (by omega) (by rw [show ((i + 1 : Nat) : Int) - 1 = i by omega]; exact h.2) h0
        refine ⟨by omega, ?_⟩
        rw [show readyN n (i + 1) r - i = (readyN n (i + 1) r - (i + 1)) + 1 by omega, List.drop_succ_cons]
        exact b
    · rw [if_neg e] at h0; omega
theorem qtick_ok {q : Queue} {w : Int} (h : queueOk q = true) : queueOk (qtick q w).1 = true := by
  have hq := queueOk_held h
  have hc := cnts_each hq.2.2.2.2.2.1
  unfold qtick
  by_cases hw : queueOk q = true ∧ 0 ≤ w ∧ w ≤ 20
  · rw [if_pos hw]
    cases hb : q.Begun with
    | false =>
      have h2 := h
      unfold queueOk at h2
      rw [if_neg (by simp [hb]), decide_eq_true_eq] at h2
      obtain ⟨z1, z2, z3, z4, z5, z6, z7, z8⟩ := h2
      have hh : q.Held = [] := List.length_eq_zero_iff.1 z3
      rw [hh, if_neg (by simp [readyN]), if_pos (show ([] : List Packet).length = 0 from rfl)]
      unfold queueOk
      rw [if_neg (by simp), decide_eq_true_eq]
      exact ⟨z1, rfl, rfl, z4, z5, z6, z7, z8⟩
    | true =>
      have h' := (queueOk_begun hb).1 h
      have hr := readyN_le q.Next q.Held 0
      by_cases h0 : 0 < readyN q.Next 0 q.Held
      · rw [if_pos h0]
        obtain ⟨_, b⟩ := ready_gap (by omega) (by omega) (by exact h'.2.1) h0
        have := heldOk_shift (k := readyN q.Next 0 q.Held) (by omega) (by omega) b
        rw [Nat.sub_zero, show ((readyN q.Next 0 q.Held : Int)) - 1 - (readyN q.Next 0 q.Held : Int) = -1 by omega] at this
        exact (queueOk_begun rfl).2 ⟨⟨(seqPlus_in _ _).1, (seqPlus_in _ _).2, Int.le_refl _, (by decide : (0 : Int) ≤ 20), by simp only [List.length_drop]; omega⟩, this, cnts_of hc.1 hc.2.1 hc.2.2.1 hc.2.2.2.1 hc.2.2.2.2⟩
      rw [if_neg h0]
      by_cases h1 : q.Held.length = 0
      · rw [if_pos h1]
        exact (queueOk_begun rfl).2 ⟨⟨h'.1.1, h'.1.2.1, Int.le_refl _, (by decide : (0 : Int) ≤ 20), h'.1.2.2.2.2⟩, h'.2.1, h'.2.2⟩
      rw [if_neg h1]
      by_cases h2 : q.Age < w
      · rw [if_pos h2]
        exact (queueOk_begun rfl).2 ⟨⟨h'.1.1, h'.1.2.1, by simp only; omega, by simp only; omega, h'.1.2.2.2.2⟩, h'.2.1, h'.2.2⟩
      rw [if_neg h2]
      have hcn : cnts (⟨true, newNext q, 0, q.Held.drop (skipN q.Next q.Held), q.Late, q.Far, q.Twice, q.Over, more q.Lost⟩ : Queue) = true := cnts_of hc.1 hc.2.1 hc.2.2.1 hc.2.2.2.1 (cnt_more hc.2.2.2.2)
      have hs := skipN_le q.Next q.Held
      unfold newNext at hcn ⊢
      generalize skipN q.Next q.Held = s at hs hcn ⊢
      by_cases h3 : s < q.Held.length
      · rw [if_pos h3] at hcn ⊢
        have hpk := hq.2.2.2.2.2.2 (q.Held.getD s dPacket) (by rw [getD_at _ _ h3]; exact List.getElem_mem _)
        have hpk' := (packetOk_iff _).1 hpk
        obtain ⟨d1, d2, d3⟩ := heldOk_drop s h3 h'.2.1
        obtain ⟨k, hk⟩ : ∃ k : Nat, seqGap q.Next (q.Held.getD s dPacket).Seq = k := ⟨(seqGap q.Next (q.Held.getD s dPacket).Seq).toNat, by omega⟩
        have hd : heldOk q.Next ((k : Int) - 1) (q.Held.drop s) = true := by
          rw [drop_at _ s h3 dPacket, heldOk, Bool.and_eq_true, Bool.and_eq_true, decide_eq_true_eq]
          exact ⟨⟨hpk, by omega, by omega⟩, d2⟩
        have := heldOk_shift (k := k) (by omega) (by omega) hd
        rw [show (k : Int) - 1 - k = -1 by omega, ← seq_of_gap (by omega) hpk hk (by omega)] at this
        exact (queueOk_begun rfl).2 ⟨⟨by simp only; omega, by simp only; omega, Int.le_refl _, (by decide : (0 : Int) ≤ 20), by simp only [List.length_drop]; omega⟩, this, hcn⟩
      · rw [if_neg h3] at hcn ⊢
        have hd : q.Held.drop s = [] := List.drop_eq_nil_of_le (by omega)
        rw [hd] at hcn ⊢
        exact (queueOk_begun rfl).2 ⟨⟨(seqPlus_in _ _).1, (seqPlus_in _ _).2, Int.le_refl _, (by decide : (0 : Int) ≤ 20), by simp⟩, rfl, hcn⟩
  · rw [if_neg hw]; exact h
theorem spec_l01PickInt_ev (c : L01Cur) (l : List Int) (hc : curOk c) (hl : 0 < l.length) (hl2 : l.length ≤ 1000) : ∃ x c', spec_l01PickInt c l = some (x, c') ∧ x ∈ l ∧ curOk c' := by
  unfold spec_l01PickInt
  obtain ⟨x, c', e, a, b, _, h⟩ := spec_l01Below_ev c l.length hc
  have b' := b (by omega)
  rw [e, bnd_s]
  simp only
  rw [req_p (by omega)]
  refine ⟨_, _, rfl, ?_, h⟩
  rw [getD_at l _ (by omega)]; exact List.getElem_mem _
theorem spec_l01Text_ev (c : L01Cur) (n : Int) (hc : curOk c) (h0 : 0 ≤ n) (h1 : n ≤ 5000) : ∃ s c', spec_l01Text c n = some (s, c') ∧ (s.size : Int) = n ∧ curOk c' := by
  have hm : maxLen = 9223372036854775807 := rfl
  unfold spec_l01Text
  rw [sel_no (by omega), bnd_s]
  obtain ⟨o, h, h2, h3⟩ := loop_inv (f := spec_l01Text_l2 n) (fun v => 0 ≤ v.1 ∧ v.1 ≤ n ∧ curOk ⟨v.2.1, v.2.2.1, v.2.2.2.1⟩ ∧ (v.2.2.2.2.length : Int) = v.1) (fun v => (n - v.1).toNat) (fun _ o => (o.1.length : Int) = n ∧ curOk ⟨o.2.1, o.2.2.1, o.2.2.2⟩) (by
    intro ⟨i, b, j, h, l⟩ ⟨h1, h2, h3, h4⟩
    unfold spec_l01Text_l2
    simp only at h1 h2 h3 h4 ⊢
    by_cases hi : i < n
    · obtain ⟨x, c', ex, x0, x1, hx⟩ := spec_l01Byte_ev _ h3
      rw [sel_yes hi, ex, bnd_s, req_p (by rw [hm]; simp only [List.length_singleton]; omega)]
      refine .inr ⟨_, rfl, ?_, ?_, fun _ h => h⟩
      · rw [wk (by omega) (by omega)]
        exact ⟨by omega, by omega, hx, by simp; omega⟩
      · rw [wk (by omega) (by omega)]; omega
    · rw [sel_no hi]
      exact .inl ⟨_, rfl, by simp only; omega, h3⟩) (0, c.b_, c.i_, c.h_, []) ⟨by simp, h0, hc, by simp⟩
  rw [h, bnd_s]
  exact ⟨_, _, rfl, by rw [strOfNums_size]; exact h2, h3⟩
theorem spec_l22Seq_ev (c : L01Cur) (hc : curOk c) : ∃ x c', spec_l22Seq c = some (x, c') ∧ 0 ≤ x ∧ x ≤ 65535 ∧ curOk c' := by
  unfold spec_l22Seq
  obtain ⟨b, c1, e1, h1⟩ := spec_l01Once_ev c 3 hc
  rw [e1, bnd_s]
  cases b with
  | true =>
    obtain ⟨x, c2, e2, hx, h2⟩ := spec_l01PickInt_ev c1 [0, 65535, 65530, 65520, 32767, 32768] h1 (by decide) (by decide)
    simp only [sel_t]
    rw [e2, bnd_s]
    refine ⟨_, _, rfl, ?_, ?_, h2⟩
    all_goals (simp only [List.mem_cons, List.not_mem_nil, or_false] at hx; simp only; omega)
  | false =>
    obtain ⟨x, c2, e2, a, b, _, h2⟩ := spec_l01Below_ev c1 65536 h1
    have b' := b (by omega)
    simp only [sel_f]
    rw [e2, bnd_s]
    exact ⟨_, _, rfl, a, by simp only; omega, h2⟩
theorem spec_l23Packet_ev (c : L01Cur) (n : Int) (hc : curOk c) (h0 : 0 ≤ n) (h1 : n ≤ 65535) : ∃ p c', spec_l23Packet c n = some (p, c') ∧ packetOk p = true ∧ curOk c' := by
  unfold spec_l23Packet
  obtain ⟨x, c1, e1, a1, b1, _, k1⟩ := spec_l01Below_ev c 14 hc
  have b1' := b1 (by omega)
  rw [e1, bnd_s]
  obtain ⟨y, c2, e2, a2, b2, _, k2⟩ := spec_l01Below_ev c1 16 k1
  simp only
  rw [e2, bnd_s]
  have key : ∃ d c3, (sel (y == 0) (bnd (spec_l01Below c2 100) fun q4 => some (wrapK .i64 (q4.1 - 50), q4.2.b_, q4.2.i_, q4.2.h_)) (sel (y == 1) (bnd (spec_l01PickInt c2 ([39, 40, (-40), (-41), (-1)])) fun q5 => some (q5.1, q5.2.b_, q5.2.i_, q5.2.h_)) (some (wrapK .i64 (x - 2), c2.b_, c2.i_, c2.h_)))) = some (d, c3) ∧ -50 ≤ d ∧ d ≤ 50 ∧ curOk ⟨c3.1, c3.2.1, c3.2.2⟩ := by
    by_cases hy : y = 0
    · rw [sel_pos (by simpa using hy)]
      obtain ⟨z, c3, e3, a3, b3, _, k3⟩ := spec_l01Below_ev c2 100 k2
      have b3' := b3 (by omega)
      rw [e3, bnd_s, wk (by omega) (by omega)]
      exact ⟨_, _, rfl, by simp only; omega, by simp only; omega, k3⟩
    · rw [sel_neg (by simpa using hy)]
      by_cases hy1 : y = 1
      · rw [sel_pos (by simpa using hy1)]
        obtain ⟨z, c3, e3, hz, k3⟩ := spec_l01PickInt_ev c2 [39, 40, (-40), (-41), (-1)] k2 (by decide) (by decide)
        rw [e3, bnd_s]
        refine ⟨_, _, rfl, ?_, ?_, k3⟩
        all_goals (simp only [List.mem_cons, List.not_mem_nil, or_false] at hz; simp only; omega)
      · rw [sel_neg (by simpa using hy1), wk (by omega) (by omega)]
        exact ⟨_, _, rfl, by omega, by omega, k2⟩
  obtain ⟨d, c3, e3, d0, d1, k3⟩ := key
  simp only at e3 ⊢
  rw [e3, bnd_s, req_p (by decide)]
  obtain ⟨f1, c4, e4, k4⟩ := spec_l01Once_ev _ 3 k3
  rw [e4, bnd_s]
  obtain ⟨f2, c5, e5, k5⟩ := spec_l01Once_ev _ 3 k4
  simp only
  rw [e5, bnd_s]
  obtain ⟨z, c6, e6, a6, b6, _, k6⟩ := spec_l01Below_ev _ 3 k5
  have b6' := b6 (by omega)
  simp only
  rw [e6, bnd_s, wk (e := 1 + z) (by omega) (by omega)]
  obtain ⟨s, c7, e7, a7, k7⟩ := spec_l01Text_ev _ (1 + z) k6 (by omega) (by omega)
  simp only
  rw [e7, bnd_s, wk (e := n + 65536) (by omega) (by omega), wk (by omega) (by omega), tmod_pos (by omega)]
  refine ⟨_, _, rfl, ?_, k7⟩
  rw [packetOk_iff]
  simp only
  omega
theorem more_le (n : Int) (h : cnt n = true) : more n ≤ n + 1 := by
  unfold cnt at h; unfold more
  simp only [decide_eq_true_eq] at h
  split <;> omega
theorem qin_twice {q : Queue} {p : Packet} (h : queueOk q = true) : (qin q p).1.Twice ≤ q.Twice + 1 := by
  have hc := cnts_each (queueOk_held h).2.2.2.2.2.1
  have h1 := more_le _ hc.2.2.1
  have h2 : 0 ≤ q.Twice := by have := hc.2.2.1; unfold cnt at this; simp only [decide_eq_true_eq] at this; omega
  unfold qin putQ cutQ
  repeat' split
  all_goals (simp only; omega)
theorem qtick_twice (q : Queue) (w : Int) : (qtick q w).1.Twice = q.Twice := by
  unfold qtick
  repeat' split
  all_goals rfl
theorem spec_l23Right_ev (c : L01Cur) (hc : curOk c) : ∃ q c', spec_l23Right c = some (q, c') ∧ queueOk q = true ∧ q.Twice ≤ 60 ∧ curOk c' := by
  unfold spec_l23Right
  obtain ⟨n, c1, e1, a1, b1, k1⟩ := spec_l22Seq_ev c hc
  rw [e1, bnd_s]
  obtain ⟨m, c2, e2, a2, b2, _, k2⟩ := spec_l01Below_ev c1 30 k1
  have b2' := b2 (by omega)
  simp only
  rw [e2, bnd_s]
  obtain ⟨f, c3, e3, k3⟩ := spec_l01Once_ev c2 6 k2
  simp only
  rw [e3, bnd_s]
  have key : ∃ t : Int × List Int × Int × Int, sel f (some (wrapK .i64 (m + 30), c3.b_, c3.i_, c3.h_)) (some (m, c3.b_, c3.i_, c3.h_)) = some t ∧ 0 ≤ t.1 ∧ t.1 ≤ 59 ∧ curOk ⟨t.2.1, t.2.2.1, t.2.2.2⟩ := by
    rw [wk (by omega) (by omega)]
    cases f with
    | true => exact ⟨_, rfl, by simp only; omega, by simp only; omega, k3⟩
    | false => exact ⟨_, rfl, by simp only; omega, by simp only; omega, k3⟩
  obtain ⟨t, e4, t0, t1, k4⟩ := key
  simp only at e4 ⊢
  rw [e4, bnd_s]
  obtain ⟨o, h, h2, h3, h4⟩ := loop_inv (f := spec_l23Right_l2 t) (fun v => 0 ≤ v.1 ∧ v.1 ≤ 65535 ∧ 0 ≤ v.2.1 ∧ v.2.1 ≤ 59 ∧ curOk ⟨v.2.2.1, v.2.2.2.1, v.2.2.2.2.1⟩ ∧ queueOk (⟨v.2.2.2.2.2.1, v.2.2.2.2.2.2.1, v.2.2.2.2.2.2.2.1, v.2.2.2.2.2.2.2.2.2.2.2.2.2, v.2.2.2.2.2.2.2.2.1, v.2.2.2.2.2.2.2.2.2.1, v.2.2.2.2.2.2.2.2.2.2.1, v.2.2.2.2.2.2.2.2.2.2.2.1, v.2.2.2.2.2.2.2.2.2.2.2.2.1⟩ : Queue) = true ∧ v.2.2.2.2.2.2.2.2.2.2.1 ≤ v.2.1) (fun v => 60 - v.2.1.toNat)
    (fun _ o => queueOk (⟨o.1, o.2.1, o.2.2.1, o.2.2.2.2.2.2.2.2.2.2.2, o.2.2.2.1, o.2.2.2.2.1, o.2.2.2.2.2.1, o.2.2.2.2.2.2.1, o.2.2.2.2.2.2.2.1⟩ : Queue) = true ∧ o.2.2.2.2.2.1 ≤ 60 ∧ curOk ⟨o.2.2.2.2.2.2.2.2.1, o.2.2.2.2.2.2.2.2.2.1, o.2.2.2.2.2.2.2.2.2.2.1⟩) (by
    intro ⟨nx, i, cb, ci, ch, qb, qn, qa, ql, qf, qt, qo, qs, qh⟩ ⟨h1, h2, h3, h4, h5, h6, h7⟩
    unfold spec_l23Right_l2
    simp only at h1 h2 h3 h4 h5 h6 h7 ⊢
    by_cases hi : i < t.1
    · rw [sel_yes hi]
      obtain ⟨p, c5, e5, hp, k5⟩ := spec_l23Packet_ev _ nx h5 h1 h2
      rw [e5, bnd_s]
      simp only
      have hl := (queueOk_held h6).2.2.1
      rw [spec_QueueIn_eq _ p (by omega), bnd_s]
      generalize hq1 : (⟨qb, qn, qa, qh, ql, qf, qt, qo, qs⟩ : Queue) = q1 at h6 hl ⊢
      have ht1 : q1.Twice = qt := by rw [← hq1]
      have ok2 := qin_ok (p := p) h6
      have tw2 := qin_twice (p := p) h6
      generalize qin q1 p = r2 at ok2 tw2 ⊢
      obtain ⟨q2, r⟩ := r2
      simp only at ok2 tw2 ⊢
      obtain ⟨f1, c6, e6, k6⟩ := spec_l01Once_ev _ 12 k5
      rw [e6, bnd_s]
      simp only
      have step : ∃ (c7 : L01Cur) (q3 : Queue), (sel f1 (bnd (spec_l01Below c6 3) fun q32 => bnd (spec_QueueTick q2 q32.1) fun q33 => some (q32.2.b_, q32.2.i_, q32.2.h_, q33.1.Begun, q33.1.Next, q33.1.Age, q33.1.Late, q33.1.Far, q33.1.Twice, q33.1.Over, q33.1.Lost, q33.1.Held)) (some (c6.b_, c6.i_, c6.h_, q2.Begun, q2.Next, q2.Age, q2.Late, q2.Far, q2.Twice, q2.Over, q2.Lost, q2.Held))) = some (c7.b_, c7.i_, c7.h_, q3.Begun, q3.Next, q3.Age, q3.Late, q3.Far, q3.Twice, q3.Over, q3.Lost, q3.Held) ∧ curOk c7 ∧ queueOk q3 = true ∧ q3.Twice ≤ i + 1 := by
        cases f1 with
        | true =>
          obtain ⟨w, c7, e7, _, _, _, k7⟩ := spec_l01Below_ev c6 3 k6
          rw [sel_t, e7, bnd_s]
          simp only
          have := (queueOk_held ok2).2.2.1
          rw [spec_QueueTick_eq q2 w (by omega), bnd_s]
          exact ⟨c7, (qtick q2 w).1, rfl, k7, qtick_ok ok2, by rw [qtick_twice]; omega⟩
        | false => exact ⟨c6, q2, rfl, k6, ok2, by omega⟩
      obtain ⟨c7, q3, e7, k7, ok3, tw3⟩ := step
      rw [e7, bnd_s]
      simp only
      have hn3 := queueOk_held ok3
      have nxt : ∃ n2, sel q3.Begun (some q3.Next) (some nx) = some n2 ∧ 0 ≤ n2 ∧ n2 ≤ 65535 := by
        cases q3.Begun with
        | true => exact ⟨_, rfl, hn3.1, hn3.2.1⟩
        | false => exact ⟨_, rfl, h1, h2⟩
      obtain ⟨n2, e8, g0, g1⟩ := nxt
      rw [e8, bnd_s]
      obtain ⟨f2, c8, e9, k8⟩ := spec_l01Once_ev _ 9 k7
      rw [show (⟨c7.b_, c7.i_, c7.h_⟩ : L01Cur) = c7 from rfl, e9, bnd_s, req_p (by decide), wk (e := n2 + 20) (by omega) (by omega), tmod_pos (by omega), wk (e := i + 1) (by omega) (by omega)]
      right
      cases f2 with
      | true =>
        rw [sel_t, bnd_s]
        exact ⟨_, rfl, ⟨by simp only; omega, by simp only; omega, by simp only; omega, by simp only; omega, k8, ok3, tw3⟩, by simp only; omega, fun _ h => h⟩
      | false =>
        rw [sel_f, bnd_s]
        exact ⟨_, rfl, ⟨g0, g1, by simp only; omega, by simp only; omega, k8, ok3, tw3⟩, by simp only; omega, fun _ h => h⟩
    · rw [sel_no hi]
      exact .inl ⟨_, rfl, h6, by simp only; omega, h5⟩) (n, 0, t.2.1, t.2.2.1, t.2.2.2, false, 0, 0, 0, 0, 0, 0, 0, []) ⟨a1, b1, by simp, by simp, k4, rfl, by simp⟩
  rw [h, bnd_s]
  exact ⟨_, _, rfl, h2, h3, h4⟩
theorem spec_DrawQueue_ev (b : List Int) (hb : b.length ≤ 1048576) : ∃ q l, spec_DrawQueue b = some (q, l) ∧ queueOk q = true ∧ q.Twice ≤ 60 ∧ l.length ≤ 10 ∧ ∀ p ∈ l, packetOk p = true := by
  have hm : maxLen = 9223372036854775807 := rfl
  unfold spec_DrawQueue
  obtain ⟨c, e, hc⟩ := spec_l01New_ev b hb
  obtain ⟨q, c1, e1, hq, ht, hc1⟩ := spec_l23Right_ev c hc
  rw [e, bnd_s, e1, bnd_s]
  have hqn := queueOk_held hq
  obtain ⟨o, h, h2, h3⟩ := loop_inv (f := spec_DrawQueue_l2 (q, c1)) (fun v => 0 ≤ v.1 ∧ v.1 ≤ 10 ∧ curOk ⟨v.2.1, v.2.2.1, v.2.2.2.1⟩ ∧ (v.2.2.2.2.length : Int) = v.1 ∧ ∀ p ∈ v.2.2.2.2, packetOk p = true) (fun v => 10 - v.1.toNat) (fun _ o => o.length ≤ 10 ∧ ∀ p ∈ o, packetOk p = true) (by
    intro ⟨i, b, j, h, l⟩ ⟨h1, h2, h3, h4, h5⟩
    unfold spec_DrawQueue_l2
    simp only at h1 h2 h3 h4 h5 ⊢
    obtain ⟨x, c', ex, x0, x1, _, hx⟩ := spec_l01Below_ev _ 9 h3
    have x1' := x1 (by omega)
    rw [ex, bnd_s]
    simp only
    rw [wk (e := 1 + x) (by omega) (by omega)]
    by_cases hi : i < 1 + x
    · obtain ⟨p, c2, ey, hp, hy⟩ := spec_l23Packet_ev c' q.Next hx hqn.1 hqn.2.1
      rw [sel_yes hi, ey, bnd_s, req_p (by rw [hm]; simp only [List.length_singleton]; omega)]
      refine .inr ⟨_, rfl, ?_, ?_, fun _ h => h⟩
      · rw [wk (by omega) (by omega)]
        refine ⟨by omega, by omega, hy, by simp; omega, ?_⟩
        intro y hy
        rcases List.mem_append.1 hy with hy | hy
        · exact h5 y hy
        · rw [List.mem_singleton.1 hy]; exact hp
      · rw [wk (by omega) (by omega)]; omega
    · rw [sel_no hi]
      exact .inl ⟨_, rfl, by omega, h5⟩) (0, c1.b_, c1.i_, c1.h_, []) ⟨by simp, by simp, hc1, by simp, by simp⟩
  simp only
  rw [h, bnd_s]
  exact ⟨_, _, rfl, hq, ht, h2, h3⟩
theorem laws_samePackets_self (l : List Packet) (hl : l.length ≤ 1048600) : laws_samePackets l l = some true := by
  unfold laws_samePackets
  rw [sel_neg (by simp), self_loop l.length (f := laws_samePackets_l2 l l) (by
    intro i hi
    unfold laws_samePackets_l2
    rw [sel_yes (by omega), req_p (by omega), req_p (by omega), sel_neg (by simp), wk (by omega) (by omega)]
    rfl) (by unfold laws_samePackets_l2; rw [sel_no (by omega)])]
  rfl
theorem laws_sameQueue_self (q : Queue) (h : q.Held.length ≤ 1048600) : laws_sameQueue q q = some true := by
  unfold laws_sameQueue
  simp only [beq_self_eq_true, sel_t, laws_samePackets_self q.Held h, bnd_s]
theorem qtick_taken {q : Queue} {w : Int} (h : queueOk q = true ∧ 0 ≤ w ∧ w ≤ 20) (h0 : 0 < readyN q.Next 0 q.Held) : qtick q w = (⟨q.Begun, seqPlus q.Next (readyN q.Next 0 q.Held), 0, q.Held.drop (readyN q.Next 0 q.Held), q.Late, q.Far, q.Twice, q.Over, q.Lost⟩, q.Held.take (readyN q.Next 0 q.Held), 1) := by
  unfold qtick; rw [if_pos h, if_pos h0]
theorem qtick_empty {q : Queue} {w : Int} (h : queueOk q = true ∧ 0 ≤ w ∧ w ≤ 20) (h0 : ¬ 0 < readyN q.Next 0 q.Held) (h1 : q.Held.length = 0) : qtick q w = (⟨q.Begun, q.Next, 0, q.Held, q.Late, q.Far, q.Twice, q.Over, q.Lost⟩, [], 0) := by
  unfold qtick; rw [if_pos h, if_neg h0, if_pos h1]
theorem qtick_wait {q : Queue} {w : Int} (h : queueOk q = true ∧ 0 ≤ w ∧ w ≤ 20) (h0 : ¬ 0 < readyN q.Next 0 q.Held) (h1 : ¬ q.Held.length = 0) (h2 : q.Age < w) : qtick q w = (⟨q.Begun, q.Next, q.Age + 1, q.Held, q.Late, q.Far, q.Twice, q.Over, q.Lost⟩, [], 0) := by
  unfold qtick; rw [if_pos h, if_neg h0, if_neg h1, if_pos h2]
theorem qtick_give {q : Queue} {w : Int} (h : queueOk q = true ∧ 0 ≤ w ∧ w ≤ 20) (h0 : ¬ 0 < readyN q.Next 0 q.Held) (h1 : ¬ q.Held.length = 0) (h2 : ¬ q.Age < w) : qtick q w = (⟨q.Begun, newNext q, 0, q.Held.drop (skipN q.Next q.Held), q.Late, q.Far, q.Twice, q.Over, more q.Lost⟩, [], 2) := by
  unfold qtick; rw [if_pos h, if_neg h0, if_neg h1, if_neg h2]
theorem qtick_bad {q : Queue} {w : Int} (h : ¬ (queueOk q = true ∧ 0 ≤ w ∧ w ≤ 20)) : qtick q w = (q, [], 0) := by
  unfold qtick; rw [if_neg h]
def headOff (q : Queue) : Int := match q.Held with
  | [] => 0
  | p :: _ => if p.First = true ∧ p.Seq ≠ q.Next then 1 else 0
def left (q : Queue) (w : Int) : Int := if q.Held.length = 0 then 0 else (w + 1) * (2 * (q.Held.length - 1) + headOff q) + (if q.Age < w then w - q.Age else 0) + 1
theorem tick_out (q : Queue) (w : Int) (h : queueOk q = true) : ((qtick q w).2.2 = 1 ∧ 0 < (qtick q w).2.1.length ∨ (qtick q w).2.2 ≠ 1 ∧ (qtick q w).2.1.length = 0) ∧ (qtick q w).1.Held.length + (qtick q w).2.1.length ≤ q.Held.length := by
  have hr := readyN_le q.Next q.Held 0
  by_cases hw : queueOk q = true ∧ 0 ≤ w ∧ w ≤ 20
  · by_cases h0 : 0 < readyN q.Next 0 q.Held
    · rw [qtick_taken hw h0]
      refine ⟨.inl ⟨rfl, ?_⟩, ?_⟩
      · simp only [List.length_take]; omega
      · simp only [List.length_take, List.length_drop]; omega
    by_cases h1 : q.Held.length = 0
    · rw [qtick_empty hw h0 h1]
      exact ⟨.inr ⟨by simp, rfl⟩, Nat.le_refl _⟩
    by_cases h2 : q.Age < w
    · rw [qtick_wait hw h0 h1 h2]
      exact ⟨.inr ⟨by simp, rfl⟩, Nat.le_refl _⟩
    · rw [qtick_give hw h0 h1 h2]
      exact ⟨.inr ⟨by simp, rfl⟩, by simp only [List.length_drop, List.length_nil]; omega⟩
  · rw [qtick_bad hw]
    exact ⟨.inr ⟨by simp, rfl⟩, Nat.le_refl _⟩
theorem qin_again {q : Queue} {p : Packet} (h : queueOk q = true) (h0 : (qin q p).2 = 0) : qin (qin q p).1 p = (⟨(qin q p).1.Begun, (qin q p).1.Next, (qin q p).1.Age, (qin q p).1.Held, (qin q p).1.Late, (qin q p).1.Far, more (qin q p).1.Twice, (qin q p).1.Over, (qin q p).1.Lost⟩, 5) := by
  have ok := qin_ok (p := p) h
  have hp : packetOk p = true := by
    refine Classical.byContradiction fun hp => ?_
    unfold qin at h0; rw [if_pos h, if_neg hp] at h0; simp at h0
  have hpk := (packetOk_iff p).1 hp
  have key : (qin q p).1.Begun = true ∧ (0 ≤ seqGap (qin q p).1.Next p.Seq ∧ seqGap (qin q p).1.Next p.Seq < 40) ∧ hasSeq p.Seq (qin q p).1.Held = true := by
    unfold qin at h0 ⊢
    rw [if_pos h, if_pos hp] at h0 ⊢
    by_cases hb : q.Begun = true
    · rw [if_pos hb] at h0 ⊢
      by_cases h1 : seqGap q.Next p.Seq ≥ 40 ∨ seqGap q.Next p.Seq < -40
      · rw [if_pos h1] at h0; simp at h0
      rw [if_neg h1] at h0 ⊢
      by_cases h2 : seqGap q.Next p.Seq < 0
      · rw [if_pos h2] at h0; simp at h0
      rw [if_neg h2] at h0 ⊢
      by_cases h3 : hasSeq p.Seq q.Held = true
      · rw [if_pos h3] at h0; simp at h0
      rw [if_neg h3] at h0 ⊢
      by_cases h4 : q.Held.length < 24
      · rw [if_pos h4]
        refine ⟨hb, ⟨?_, ?_⟩, ?_⟩
        · show 0 ≤ seqGap q.Next p.Seq; omega
        · show seqGap q.Next p.Seq < 40; omega
        · show hasSeq p.Seq (putL q.Next (seqGap q.Next p.Seq) p q.Held) = true
          have : ∀ l : List Packet, hasSeq p.Seq (putL q.Next (seqGap q.Next p.Seq) p l) = true := by
            intro l
            induction l with
            | nil => simp [putL, hasSeq]
            | cons x r ih =>
              rw [putL]
              split
              · simp [hasSeq]
              · unfold hasSeq at ih ⊢
                rw [List.any_cons, ih, Bool.or_true]
          exact this _
      · rw [if_neg h4] at h0; simp at h0
    · rw [if_neg hb]
      have e : seqGap p.Seq p.Seq = 0 := by
        unfold seqGap; rw [if_pos (by omega), if_neg (by omega), if_neg (by omega)]; omega
      exact ⟨rfl, ⟨by simp only; omega, by simp only; omega⟩, by simp [hasSeq]⟩
  generalize (qin q p).1 = a at ok key ⊢
  obtain ⟨k1, k2, k3⟩ := key
  unfold qin
  rw [if_pos ok, if_pos hp, if_pos k1, if_neg (by omega), if_neg (by omega), if_pos k3]
theorem FnQueues {p0 : List Int} (h0 : p0.length ≤ maxLen ∧ ∀ y ∈ p0, (Lit.int .u8 y).wf = true) : laws_FnQueues p0 = some true := by
  unfold laws_FnQueues
  rw [laws_big_eq, bnd_s]
  by_cases hb : (p0.length : Int) > 1048576
  · rw [sel_yes hb]
  rw [sel_no hb]
  obtain ⟨q, l, e1, hq, ht, hl, hlp⟩ := spec_DrawQueue_ev p0 (by omega)
  obtain ⟨p, e2, hp, hp2⟩ := spec_DrawPlaces_ev p0 (by omega)
  rw [e1, bnd_s, bnd_s, e2, bnd_s]
  have g : ∀ i, i < 12 → 0 ≤ p.getD i 0 ∧ p.getD i 0 < 10000 := fun i hi => by rw [getD_at p i (by omega)]; exact hp2 _ (List.getElem_mem _)
  obtain ⟨w, hw, w0, w1⟩ : ∃ w, (p.getD ((0 : Int).toNat) 0).tmod 3 = w ∧ 0 ≤ w ∧ w ≤ 2 := by
    rw [Int.toNat_zero, tmod_pos (g 0 (by omega)).1]; exact ⟨_, rfl, by omega, by omega⟩
  obtain ⟨o, h, h2⟩ := loop_inv (f := laws_FnQueues_l2 (q, l) p) (fun v => 0 ≤ v.1 ∧ v.1 ≤ l.length ∧ ∃ q : Queue, queueOk q = true ∧ q.Twice ≤ 60 + v.1 ∧ v = (v.1, q.Begun, q.Next, q.Age, q.Late, q.Far, q.Twice, q.Over, q.Lost, q.Begun, q.Next, q.Age, q.Late, q.Far, q.Twice, q.Over, q.Lost, q.Held, q.Held)) (fun v => l.length - v.1.toNat) (fun _ o => o = .out ()) (by
    intro v ⟨h1, h2, q1, ok1, tw1, ev⟩
    generalize hi : v.1 = i at h1 h2 tw1 ev
    subst ev
    unfold laws_FnQueues_l2
    simp only
    by_cases hil : i < l.length
    · right
      have hl1 := (queueOk_held ok1).2.2.1
      rw [sel_yes hil]
      simp only [joinK]
      rw [req_p (by omega), req_p (by omega), impl_QueueIn_eq _ _ (by simp only; omega), bnd_s, req_p (by omega), req_p (by omega), spec_QueueIn_eq _ _ (by simp only; omega), bnd_s]
      have eta : (⟨(l.getD i.toNat dPacket).Seq, (l.getD i.toNat dPacket).First, (l.getD i.toNat dPacket).Last, (l.getD i.toNat dPacket).Bytes⟩ : Packet) = l.getD i.toNat dPacket := rfl
      have eta2 : (⟨q1.Begun, q1.Next, q1.Age, q1.Held, q1.Late, q1.Far, q1.Twice, q1.Over, q1.Lost⟩ : Queue) = q1 := rfl
      rw [eta, eta2]
      generalize l.getD i.toNat dPacket = pk
      have ok2 := qin_ok (p := pk) ok1
      have tw2 := qin_twice (p := pk) ok1
      have ag := fun e => qin_again (p := pk) ok1 e
      generalize qin q1 pk = r at ok2 tw2 ag ⊢
      obtain ⟨a, c⟩ := r
      simp only at ok2 tw2 ag ⊢
      have hl2 := (queueOk_held ok2).2.2.1
      have tc := cnts_each (queueOk_held ok2).2.2.2.2.2.1
      rw [laws_sameQueue_self a (by omega), impl_QueueOk_eq, ok2]
      simp only [bne_self_eq_false, sel_f, bnd_s, sel_t]
      rw [sel_no (by omega), wk (e := i + 1) (by omega) (by omega)]
      have step : ∃ q2 : Queue, queueOk q2 = true ∧ q2.Twice ≤ 60 + (i + 1) ∧ (req ((12 : Int) ≠ 0) <| req (0 ≤ (i.tmod 12) ∧ (i.tmod 12) < p.length) <| req ((i.tmod 12).toNat < p.length) <| req ((3 : Int) ≠ 0) <|
          sel (((p.getD ((i.tmod 12).toNat) 0).tmod 3) == 0) (
          req (0 ≤ (0 : Int) ∧ (0 : Int) < p.length) <| req ((0 : Int).toNat < p.length) <| req ((3 : Int) ≠ 0) <|
          bnd (impl_QueueTick a ((p.getD ((0 : Int).toNat) 0).tmod 3)) fun q51 =>
          req (0 ≤ (0 : Int) ∧ (0 : Int) < p.length) <| req ((0 : Int).toNat < p.length) <| req ((3 : Int) ≠ 0) <|
          bnd (spec_QueueTick a ((p.getD ((0 : Int).toNat) 0).tmod 3)) fun q52 =>
          bnd (sel (q51.2.2 != q52.2.2) (some true) (bnd (laws_samePackets q51.2.1 q52.2.1) fun q54 => sel q54 (bnd (laws_sameQueue q51.1 q52.1) fun q55 => sel q55 (bnd (impl_QueueOk q51.1) fun q56 => some (!q56)) (some true)) (some true))) fun v53 =>
          sel v53 (some (Lp.done (Ou.ret false))) (
          some (.go (i + 1, q51.1.Begun, q51.1.Next, q51.1.Age, q51.1.Late, q51.1.Far, q51.1.Twice, q51.1.Over, q51.1.Lost, q52.1.Begun, q52.1.Next, q52.1.Age, q52.1.Late, q52.1.Far, q52.1.Twice, q52.1.Over, q52.1.Lost, q51.1.Held, q52.1.Held)))) (
          some (.go (i + 1, a.Begun, a.Next, a.Age, a.Late, a.Far, a.Twice, a.Over, a.Lost, a.Begun, a.Next, a.Age, a.Late, a.Far, a.Twice, a.Over, a.Lost, a.Held, a.Held))) : Option (Lp (Int × Bool × Int × Int × Int × Int × Int × Int × Int × Bool × Int × Int × Int × Int × Int × Int × Int × (List Packet) × (List Packet)) (Ou Unit Bool))) =
          some (.go (i + 1, q2.Begun, q2.Next, q2.Age, q2.Late, q2.Far, q2.Twice, q2.Over, q2.Lost, q2.Begun, q2.Next, q2.Age, q2.Late, q2.Far, q2.Twice, q2.Over, q2.Lost, q2.Held, q2.Held)) := by
        rw [req_p (by decide), tmod_pos h1, req_p (by omega), req_p (by omega), req_p (by decide)]
        by_cases hz : (p.getD ((i % 12).toNat) 0).tmod 3 = 0
        · rw [sel_pos (by simpa using hz), req_p (by omega), req_p (by rw [hp]; decide), req_p (by decide), hw, impl_QueueTick_eq a w (by omega), bnd_s, req_p (by omega), req_p (by rw [hp]; decide), req_p (by decide), spec_QueueTick_eq a w (by omega), bnd_s]
          have ok3 := qtick_ok (w := w) ok2
          have tw3 := qtick_twice a w
          have tk := tick_out a w ok2
          generalize qtick a w = t at ok3 tw3 tk ⊢
          obtain ⟨q2, out, what⟩ := t
          simp only at ok3 tw3 tk ⊢
          have hl3 := (queueOk_held ok3).2.2.1
          rw [laws_samePackets_self out (by omega), laws_sameQueue_self q2 (by omega), impl_QueueOk_eq, ok3]
          simp only [bne_self_eq_false, sel_f, bnd_s, sel_t, Bool.not_true]
          exact ⟨q2, ok3, by omega, rfl⟩
        · rw [sel_neg (by simpa using hz)]
          exact ⟨a, ok2, by omega, rfl⟩
      obtain ⟨q2, ok3, tw3, e5⟩ := step
      by_cases hc : c = 0
      · have hag := ag hc
        have hm : 0 ≤ a.Twice := by have := tc.2.2.1; unfold cnt at this; simp only [decide_eq_true_eq] at this; omega
        have hmo : more a.Twice = a.Twice + 1 := by unfold more; rw [if_pos (by omega)]
        rw [sel_pos (by simpa using hc), req_p (by omega), req_p (by omega), impl_QueueIn_eq a pk (by omega), bnd_s, hag]
        simp only [bne_self_eq_false, sel_f]
        rw [hmo, show a.Twice + 1 - 1 = a.Twice by omega, wk (by omega) (by omega), show (⟨a.Begun, a.Next, a.Age, a.Held, a.Late, a.Far, a.Twice, a.Over, a.Lost⟩ : Queue) = a from rfl, laws_sameQueue_self a (by omega), bnd_s, Bool.not_true, bnd_s, sel_f, e5]
        exact ⟨_, rfl, ⟨by simp only; omega, by simp only; omega, q2, ok3, tw3, rfl⟩, by simp only; omega, fun _ h => h⟩
      · rw [sel_neg (by simpa using hc), e5]
        exact ⟨_, rfl, ⟨by simp only; omega, by simp only; omega, q2, ok3, tw3, rfl⟩, by simp only; omega, fun _ h => h⟩
    · rw [sel_no hil]; exact .inl ⟨_, rfl, rfl⟩) (0, q.Begun, q.Next, q.Age, q.Late, q.Far, q.Twice, q.Over, q.Lost, q.Begun, q.Next, q.Age, q.Late, q.Far, q.Twice, q.Over, q.Lost, q.Held, q.Held) ⟨by simp, by simp, q, hq, by simp only; omega, rfl⟩
  rw [h, h2]; rfl
end Go.Proofs.Ytplmeeookgefnaa.Pure
