/- The pure statement of the law FnInOrder: over numbers, texts and lists alone, what the law computes is true. Conditions: the sizes of what a machine holds. -/
import Derived.Test.YtgmcephkajhfjaaGreatDFnInOrder
namespace Go.Proofs.YtgmcephkajhfjaaGreat.A.Pure
open Go Go.Proofs Go.Proofs.YtgmcephkajhfjaaGreatAL Go.RowKit
set_option linter.unusedVariables false
set_option linter.unusedSimpArgs false
set_option maxHeartbeats 1000000
theorem bnd_s {α β : Type} (a : α) (f : α → Option β) : bnd (some a) f = f a := rfl
theorem bnd_e {α β : Type} {x : Option α} {a : α} {f : α → Option β} (h : x = some a) : bnd x f = f a := by subst h; rfl
theorem sel_t {β : Type} (x y : β) : sel true x y = x := rfl
theorem sel_f {β : Type} (x y : β) : sel false x y = y := rfl
theorem sel_n {β : Type} (b : Bool) (x y : β) : sel (!b) x y = sel b y x := by cases b <;> rfl
theorem sel_and (b x : Bool) : sel b (some x) (some false) = some (b && x) := by cases b <;> rfl
theorem sel_or (b x : Bool) : sel b (some true) (some x) = some (b || x) := by cases b <;> rfl
theorem sel_nor (b x : Bool) : sel b (some x) (some true) = some (!b || x) := by cases b <;> rfl
theorem sel_nand (b x : Bool) : sel b (some false) (some x) = some (!b && x) := by cases b <;> rfl
theorem sel_ss {β : Type} (b : Bool) (x y : β) : sel b (some x) (some y) = some (sel b x y) := by cases b <;> rfl
theorem sel_ite {β : Type} (b : Bool) (x y : β) : sel b x y = if b = true then x else y := by cases b <;> rfl
theorem sel_d {β : Type} (p : Prop) [Decidable p] (x y : β) : sel (decide p) x y = if p then x else y := by
 by_cases h : p <;> simp [h, sel]
theorem sel_pos {β : Type} {b : Bool} {x y : β} (h : b = true) : sel b x y = x := by subst h; rfl
theorem sel_neg {β : Type} {b : Bool} {x y : β} (h : b = false) : sel b x y = y := by subst h; rfl
theorem sel_yes {β : Type} {p : Prop} [Decidable p] {x y : β} (h : p) : sel (decide p) x y = x := by simp [h, sel]
theorem sel_no {β : Type} {p : Prop} [Decidable p] {x y : β} (h : ¬ p) : sel (decide p) x y = y := by simp [h, sel]
theorem req_p {β : Type} {c : Prop} [Decidable c] {k : Option β} (h : c) : req c k = k := if_pos h
theorem wk {e : Int} (h1 : -9223372036854775808 ≤ e) (h2 : e ≤ 9223372036854775807) : wrapK .i64 e = e := by
 show wrap64 e = e
 unfold wrap64; omega
theorem w8 {e : Int} (h1 : 0 ≤ e) (h2 : e ≤ 255) : wrapK .u8 e = e := by
 show IntKind.wrap .u8 e = e
 simp [IntKind.wrap, IntKind.signed, IntKind.bits]; omega
theorem wf64 {n : Int} (h : (Lit.int .i64 n).wf = true) : -9223372036854775808 ≤ n ∧ n ≤ 9223372036854775807 := by
 simp [Lit.wf, IntKind.min, IntKind.max, IntKind.signed, IntKind.bits] at h
 omega
theorem maxLen_eq : maxLen = 9223372036854775807 := rfl
theorem tmod_pos {a b : Int} (h : 0 ≤ a) : Int.tmod a b = a % b := Int.tmod_eq_emod_of_nonneg h
theorem tdiv_pos {a b : Int} (h : 0 ≤ a) : Int.tdiv a b = a / b := Int.tdiv_eq_ediv_of_nonneg h
theorem down_to {P : Nat → Prop} (n : Nat) (h0 : P n) (hs : ∀ i, i < n → P (i + 1) → P i) : ∀ i, i ≤ n → P i := by
 intro i hi
 obtain ⟨k, rfl⟩ : ∃ k, n = i + k := ⟨n - i, by omega⟩
 clear hi
 induction k generalizing i with
 | zero => exact h0
 | succ k ih =>
  refine hs i (by omega) ?_
  exact ih (i + 1) (by rw [show i + 1 + k = i + (k + 1) by omega]; exact h0) (fun j hj => hs j (by omega))
theorem lgo {V O : Type} {f : V → Option (Lp V O)} {x y : V} {r : Option O} (h : f x = some (.go y)) (k : loop f y = r) : loop f x = r := by rw [loop_go h]; exact k
theorem ldone {V O : Type} {f : V → Option (Lp V O)} {x : V} {o : O} (h : f x = some (.done o)) : loop f x = some o := loop_done h
theorem loop_inv {V O : Type} {f : V → Option (Lp V O)} (I : V → Prop) (m : V → Nat) (Q : V → O → Prop) (h : ∀ v, I v → (∃ o, f v = some (.done o) ∧ Q v o) ∨ ∃ v', f v = some (.go v') ∧ I v' ∧ m v' < m v ∧ ∀ o, Q v' o → Q v o) : ∀ v, I v → ∃ o, loop f v = some o ∧ Q v o := by
 intro v
 generalize hn : m v = n
 induction n using Nat.strongRecOn generalizing v with
 | _ n ih =>
  intro hv
  rcases h v hv with ⟨o, h1, h2⟩ | ⟨v', h1, h2, h3, h4⟩
  ·
   exact ⟨o, loop_done h1, h2⟩
  ·
   obtain ⟨o, h5, h6⟩ := ih (m v') (by omega) v' rfl h2
   exact ⟨o, by rw [loop_go h1]; exact h5, h4 o h6⟩
theorem getD_at {α : Type} (l : List α) (i : Nat) (h : i < l.length) (d : α) : l.getD i d = l[i] := by
 simp [List.getD_eq_getElem?_getD, List.getElem?_eq_getElem h]
theorem drop_at {α : Type} (l : List α) (i : Nat) (h : i < l.length) (d : α) : l.drop i = l.getD i d :: l.drop (i + 1) := by
 rw [List.drop_eq_getElem_cons h, getD_at l i h]
theorem impl_within_eq (a b c : Int) : impl_within a b c = some (decide (b ≤ a ∧ a ≤ c)) := by
 unfold impl_within
 by_cases h : b ≤ a <;> simp [bnd, sel, h]
theorem spec_l01In_eq (a b c : Int) : spec_l01In a b c = some (decide (b ≤ a ∧ a ≤ c)) := by
 unfold spec_l01In
 by_cases h : b ≤ a <;> simp [bnd, sel, h]
theorem impl_isNumber_eq (a : Int) : impl_isNumber a = some (decide (0 ≤ a ∧ a ≤ 65535)) := by
 unfold impl_isNumber; rw [impl_within_eq]; rfl
theorem set_mid {α : Type} (a : List α) (x y : α) (b : List α) : (a ++ x :: b).set a.length y = a ++ y :: b := by
 induction a with
 | nil => rfl
 | cons z a ih => simp only [List.cons_append, List.length_cons, List.set_cons_succ, ih]
theorem getD_mid {α : Type} (a : List α) (x d : α) (b : List α) : (a ++ x :: b).getD a.length d = x := by
 induction a with
 | nil => rfl
 | cons z a ih => simp
theorem self_loop {f : Int → Option (Lp Int (Ou Unit Bool))} (n : Nat) (h : ∀ i : Nat, i < n → f i = some (.go ((i + 1 : Nat) : Int))) (h0 : f n = some (.done (.out ()))) : loop f 0 = some (.out ()) :=
 down_to (P := fun i => loop f (i : Int) = some (.out ())) n (loop_done h0) (fun i hi ih => by rw [loop_go (h i hi)]; exact ih) 0 (by omega)
theorem and_255 (y : Int) : 0 ≤ IntKind.wrap .i64 (BitVec.ofInt (IntKind.bits .i64) y &&& BitVec.ofInt (IntKind.bits .i64) 255).toNat ∧ IntKind.wrap .i64 (BitVec.ofInt (IntKind.bits .i64) y &&& BitVec.ofInt (IntKind.bits .i64) 255).toNat ≤ 255 := by
 have h : (BitVec.ofInt (IntKind.bits .i64) y &&& BitVec.ofInt (IntKind.bits .i64) 255).toNat ≤ 255 := by
  rw [BitVec.toNat_and]
  exact Nat.le_trans Nat.and_le_right (by decide)
 generalize (BitVec.ofInt (IntKind.bits .i64) y &&& BitVec.ofInt (IntKind.bits .i64) 255).toNat = n at h ⊢
 rw [← wrapK_eq, wk (by omega) (by omega)]
 omega
def curOk (c : L01Cur) : Prop := c.b_.length ≤ 1048576 ∧ 0 ≤ c.i_
theorem spec_l01New_ev (b : List Int) (hb : b.length ≤ 1048576) : ∃ c, spec_l01New b = some c ∧ curOk c := by
 unfold spec_l01New
 obtain ⟨o, h, _⟩ := loop_inv (f := spec_l01New_l2 b) (fun v => 0 ≤ v.2) (fun v => b.length - v.2.toNat) (fun _ _ => True) (by
  intro ⟨h, i⟩ hi
  unfold spec_l01New_l2
  simp only [sel_and, bnd_s] at hi ⊢
  by_cases h1 : i < b.length ∧ i < 4000
  ·
   rw [sel_pos (by simp; exact h1), req_p ⟨hi, h1.1⟩]
   refine .inr ⟨_, rfl, ?_, ?_, fun _ _ => trivial⟩
   ·
    simp only; rw [wk (by omega) (by omega)]; omega
   ·
    simp only; rw [wk (by omega) (by omega)]; omega
  ·
   rw [sel_neg (by simp; omega)]
   exact .inl ⟨_, rfl, trivial⟩) (wrapK .i64 (94701 + (b.length : Int)), 0) (by simp)
 rw [h]
 exact ⟨_, rfl, hb, by simp⟩
theorem spec_l01Byte_ev (c : L01Cur) (hc : curOk c) : ∃ x c', spec_l01Byte c = some (x, c') ∧ 0 ≤ x ∧ x ≤ 255 ∧ curOk c' := by
 unfold spec_l01Byte
 rw [req_p (by decide), req_p (by decide)]
 obtain ⟨h1, h2⟩ := hc
 by_cases h : c.i_ < c.b_.length
 ·
  rw [sel_yes h, req_p ⟨h2, h⟩, bnd_s]
  refine ⟨_, _, rfl, (and_255 _).1, (and_255 _).2, h1, ?_⟩
  simp only; rw [wk (by omega) (by omega)]; omega
 ·
  rw [sel_no h, bnd_s]
  exact ⟨_, _, rfl, (and_255 _).1, (and_255 _).2, h1, h2⟩
theorem spec_l01Below_ev (c : L01Cur) (n : Int) (hc : curOk c) : ∃ x c', spec_l01Below c n = some (x, c') ∧ 0 ≤ x ∧ (0 < n → x < n) ∧ (n ≤ 0 → x = 0) ∧ curOk c' := by
 unfold spec_l01Below
 by_cases h0 : n ≤ 0
 ·
  rw [sel_yes h0]; exact ⟨_, _, rfl, by omega, fun h => by omega, fun _ => rfl, hc⟩
 ·
  rw [sel_no h0]
  obtain ⟨x, c1, e1, a1, b1, hc1⟩ := spec_l01Byte_ev c hc
  by_cases h1 : n ≤ 256
  ·
   rw [sel_yes h1, e1, bnd_s, req_p (by omega)]
   refine ⟨_, _, rfl, ?_, fun _ => ?_, fun h => by omega, hc1⟩
   ·
    simp only; rw [tmod_pos a1]; exact Int.emod_nonneg _ (by omega)
   ·
    simp only; rw [tmod_pos a1]; exact Int.emod_lt_of_pos _ (by omega)
  ·
   obtain ⟨y, c2, e2, a2, b2, hc2⟩ := spec_l01Byte_ev c1 hc1
   obtain ⟨z, c3, e3, a3, b3, hc3⟩ := spec_l01Byte_ev c2 hc2
   obtain ⟨u, c4, e4, a4, b4, hc4⟩ := spec_l01Byte_ev c3 hc3
   rw [sel_no h1, e1, bnd_s]
   simp only
   rw [e2, bnd_s]
   simp only
   rw [e3, bnd_s]
   simp only
   rw [e4, bnd_s, req_p (by omega)]
   simp only
   rw [wk (e := x * 16777216) (by omega) (by omega), wk (e := y * 65536) (by omega) (by omega), wk (e := z * 256) (by omega) (by omega), wk (e := x * 16777216 + y * 65536) (by omega) (by omega), wk (e := x * 16777216 + y * 65536 + z * 256) (by omega) (by omega), wk (by omega) (by omega), tmod_pos (by omega)]
   exact ⟨_, _, rfl, Int.emod_nonneg _ (by omega), fun _ => Int.emod_lt_of_pos _ (by omega), fun h => by omega, hc4⟩
theorem spec_l01Once_ev (c : L01Cur) (n : Int) (hc : curOk c) : ∃ x c', spec_l01Once c n = some (x, c') ∧ curOk c' := by
 unfold spec_l01Once
 obtain ⟨x, c', e, _, _, _, h⟩ := spec_l01Below_ev c n hc
 rw [e, bnd_s]; exact ⟨_, _, rfl, h⟩
theorem laws_big_eq (l : List Int) : laws_big l = some (decide ((l.length : Int) > 1048576)) := rfl
theorem spec_DrawPlaces_ev (b : List Int) (hb : b.length ≤ 1048576) : ∃ l, spec_DrawPlaces b = some l ∧ l.length = 12 ∧ ∀ x ∈ l, 0 ≤ x ∧ x < 10000 := by
 unfold spec_DrawPlaces
 obtain ⟨c, e, hc⟩ := spec_l01New_ev b hb
 obtain ⟨x, c1, e1, _, _, hc1⟩ := spec_l01Byte_ev c hc
 rw [e, bnd_s, e1, bnd_s]
 obtain ⟨o, h, h2⟩ := loop_inv (f := spec_DrawPlaces_l2) (fun v => 0 ≤ v.1 ∧ v.1 ≤ 12 ∧ curOk ⟨v.2.1, v.2.2.1, v.2.2.2.1⟩ ∧ (v.2.2.2.2.length : Int) = v.1 ∧ ∀ x ∈ v.2.2.2.2, 0 ≤ x ∧ x < 10000) (fun v => 12 - v.1.toNat) (fun _ o => o.length = 12 ∧ ∀ x ∈ o, 0 ≤ x ∧ x < 10000) (by
  intro ⟨i, b, j, h, l⟩ ⟨h1, h2, h3, h4, h5⟩
  unfold spec_DrawPlaces_l2
  simp only at h1 h2 h3 h4 h5 ⊢
  by_cases hi : i < 12
  ·
   obtain ⟨x, c', ex, x0, x1, _, hx⟩ := spec_l01Below_ev _ 10000 h3
   rw [sel_yes hi, ex, bnd_s, req_p (by rw [maxLen_eq]; simp only [List.length_singleton]; omega)]
   refine .inr ⟨_, rfl, ?_, ?_, fun _ h => h⟩
   ·
    rw [wk (by omega) (by omega)]
    refine ⟨by omega, by omega, hx, by simp; omega, ?_⟩
    intro y hy
    rcases List.mem_append.1 hy with hy | hy
    ·
     exact h5 y hy
    ·
     rw [List.mem_singleton.1 hy]; exact ⟨x0, x1 (by omega)⟩
   ·
    rw [wk (by omega) (by omega)]; omega
  ·
   rw [sel_no hi]
   exact .inl ⟨_, rfl, by omega, h5⟩) (0, c1.b_, c1.i_, c1.h_, []) ⟨by simp, by simp, hc1, by simp, by simp⟩
 rw [h]
 exact ⟨_, rfl, h2⟩
def brought (n a b : Int) : Int := if b < a ∨ n < a then a else if n > b then b else n
def rateOk (r : Rate) : Bool := decide (0 ≤ r.Qp ∧ r.Qp ≤ 40 ∧ 1 ≤ r.Target ∧ r.Target ≤ 100000 ∧ -8 * r.Target ≤ r.Debt ∧ r.Debt ≤ 8 * r.Target)
theorem rateOk_iff (r : Rate) : rateOk r = true ↔ 0 ≤ r.Qp ∧ r.Qp ≤ 40 ∧ 1 ≤ r.Target ∧ r.Target ≤ 100000 ∧ -8 * r.Target ≤ r.Debt ∧ r.Debt ≤ 8 * r.Target := by simp [rateOk]
theorem brought_in {n a b : Int} (h : a ≤ b) : a ≤ brought n a b ∧ brought n a b ≤ b := by
 unfold brought
 repeat' split
 all_goals omega
theorem spec_l18Right_ev (c : L01Cur) (hc : curOk c) : ∃ r c', spec_l18Right c = some (r, c') ∧ rateOk r = true ∧ curOk c' := by
 unfold spec_l18Right
 obtain ⟨x, c1, e1, a1, b1, _, h1⟩ := spec_l01Below_ev c 2000 hc
 rw [e1, bnd_s]
 obtain ⟨y, c2, e2, a2, b2, _, h2⟩ := spec_l01Below_ev c1 41 h1
 simp only
 rw [e2, bnd_s]
 have b1' := b1 (by omega)
 have b2' := b2 (by omega)
 rw [wk (e := 1 + x) (by omega) (by omega), wk (e := 16 * (1 + x)) (by omega) (by omega), wk (e := 16 * (1 + x) + 1) (by omega) (by omega)]
 obtain ⟨z, c3, e3, a3, b3, _, h3⟩ := spec_l01Below_ev c2 (16 * (1 + x) + 1) h2
 have b3' := b3 (by omega)
 simp only
 rw [e3, bnd_s, wk (e := 8 * (1 + x)) (by omega) (by omega), wk (by omega) (by omega)]
 refine ⟨_, _, rfl, ?_, h3⟩
 rw [rateOk_iff]
 simp only
 omega
def seqPlus (a b : Int) : Int := if 0 ≤ a ∧ a ≤ 65535 ∧ 0 ≤ b ∧ b ≤ 65535 then (a + b) % 65536 else 0
theorem impl_SeqPlus_eq (a b : Int) : impl_SeqPlus a b = some (seqPlus a b) := by
 unfold impl_SeqPlus seqPlus
 simp only [impl_isNumber_eq, bnd_s, sel_nor]
 by_cases h : 0 ≤ a ∧ a ≤ 65535 ∧ 0 ≤ b ∧ b ≤ 65535
 ·
  rw [if_pos h, sel_neg (by simp; omega), req_p (by decide), wk (by omega) (by omega), tmod_pos (by omega)]
 ·
  rw [if_neg h, sel_pos (by simp; omega)]
theorem spec_SeqPlus_eq (a b : Int) : spec_SeqPlus a b = some (seqPlus a b) := by
 unfold spec_SeqPlus seqPlus
 simp only [spec_l01In_eq, bnd_s, sel_nor]
 by_cases h : 0 ≤ a ∧ a ≤ 65535 ∧ 0 ≤ b ∧ b ≤ 65535
 ·
  rw [if_pos h, sel_neg (by simp; omega), req_p (by decide), wk (by omega) (by omega), tmod_pos (by omega)]
 ·
  rw [if_neg h, sel_pos (by simp; omega)]
def seqGap (a b : Int) : Int := if 0 ≤ a ∧ a ≤ 65535 ∧ 0 ≤ b ∧ b ≤ 65535 then (if b - a > 32767 then b - a - 65536 else if b - a < -32768 then b - a + 65536 else b - a) else 0
theorem impl_SeqGap_eq (a b : Int) : impl_SeqGap a b = some (seqGap a b) := by
 unfold impl_SeqGap seqGap
 simp only [impl_isNumber_eq, bnd_s, sel_nor]
 by_cases h : 0 ≤ a ∧ a ≤ 65535 ∧ 0 ≤ b ∧ b ≤ 65535
 ·
  rw [if_pos h, sel_neg (by simp; omega), req_p (by decide), wk (e := b - a) (by omega) (by omega), wk (e := b - a + 65536) (by omega) (by omega), tmod_pos (by omega), wk (by omega) (by omega), sel_d]
  repeat' split
  all_goals (simp only [bnd_s]; congr 1; omega)
 ·
  rw [if_neg h, sel_pos (by simp; omega)]
def packetOk (p : Packet) : Bool := decide (0 ≤ p.Seq ∧ p.Seq ≤ 65535 ∧ 1 ≤ p.Bytes.size ∧ p.Bytes.size ≤ 400)
theorem packetOk_iff (p : Packet) : packetOk p = true ↔ 0 ≤ p.Seq ∧ p.Seq ≤ 65535 ∧ 1 ≤ p.Bytes.size ∧ p.Bytes.size ≤ 400 := by simp [packetOk]
theorem impl_PacketOk_eq (p : Packet) : impl_PacketOk p = some (packetOk p) := by
 unfold impl_PacketOk packetOk
 simp only [impl_isNumber_eq, impl_within_eq, bnd_s, sel_and]
 congr 1
 rw [Bool.eq_iff_iff]; simp; omega
def cnt (n : Int) : Bool := decide (0 ≤ n ∧ n ≤ 1000000000)
def more (n : Int) : Int := if n + 1 < 1000000000 then n + 1 else 1000000000
theorem impl_counted_eq (n : Int) (h : cnt n = true) : impl_counted n = some (more n) := by
 have h' : 0 ≤ n ∧ n ≤ 1000000000 := by simpa [cnt] using h
 unfold impl_counted more
 rw [wk (by omega) (by omega)]
 congr 1
 split <;> split <;> omega
theorem spec_Brought_eq (n a b : Int) : spec_Brought n a b = some (brought n a b) := by
 unfold spec_Brought brought
 rw [sel_or, bnd_s]
 by_cases h : b < a ∨ n < a
 ·
  rw [if_pos h, sel_pos (by simpa using h)]
 ·
  rw [if_neg h, sel_neg (by simp; omega), sel_d]; split <;> rfl
def heldOk (next : Int) : Int → List Packet → Bool
 | _, [] => true
 | last, p :: r => packetOk p && decide (last < seqGap next p.Seq ∧ seqGap next p.Seq < 40) && heldOk next (seqGap next p.Seq) r
def cnts (q : Queue) : Bool := cnt q.Late && cnt q.Far && cnt q.Twice && cnt q.Over && cnt q.Lost
def queueOk (q : Queue) : Bool :=
 if q.Begun = true then decide (0 ≤ q.Next ∧ q.Next ≤ 65535 ∧ 0 ≤ q.Age ∧ q.Age ≤ 20 ∧ q.Held.length ≤ 24) && (heldOk q.Next (-1) q.Held && cnts q)
 else decide (q.Next = 0 ∧ q.Age = 0 ∧ q.Held.length = 0 ∧ q.Late = 0 ∧ q.Far = 0 ∧ q.Twice = 0 ∧ q.Over = 0 ∧ q.Lost = 0)
theorem impl_QueueOk_eq (q : Queue) : impl_QueueOk q = some (queueOk q) := by
 unfold impl_QueueOk queueOk
 simp only [impl_isNumber_eq, impl_within_eq, bnd_s, sel_and, sel_nor]
 by_cases hb : q.Begun = true
 ·
  rw [sel_neg (by simp [hb]), if_pos hb]
  by_cases h1 : 0 ≤ q.Next ∧ q.Next ≤ 65535 ∧ 0 ≤ q.Age ∧ q.Age ≤ 20 ∧ q.Held.length ≤ 24
  ·
   rw [sel_neg (by simp; omega), decide_eq_true h1, Bool.true_and]
   have key : ∀ (r a : List Packet) (last : Int), q.Held = a ++ r → -1 ≤ last → last < 40 → loop (impl_QueueOk_l2 q) (last, (a.length : Int)) = some (if heldOk q.Next last r = true then .out () else .ret false) := by
    intro r
    induction r with
    | nil =>
     intro a last ha _ _
     rw [List.append_nil] at ha
     refine ldone ?_
     unfold impl_QueueOk_l2
     simp only
     rw [sel_no (by rw [ha]; omega)]; rfl
    | cons p r ih =>
     intro a last ha hl1 hl2
     have hlen : a.length < q.Held.length := by rw [ha]; simp
     have hp : q.Held.getD a.length dPacket = p := by rw [ha]; exact getD_mid a p _ r
     have hstep : impl_QueueOk_l2 q (last, (a.length : Int)) = sel (!(packetOk p && decide (last < seqGap q.Next p.Seq ∧ seqGap q.Next p.Seq < 40))) (some (.done (.ret false))) (some (.go (seqGap q.Next p.Seq, ((a.length + 1 : Nat) : Int)))) := by
      unfold impl_QueueOk_l2
      simp only [Int.toNat_natCast, hp]
      rw [sel_yes (by omega), req_p (by omega), impl_SeqGap_eq, bnd_s, impl_PacketOk_eq, bnd_s, wk (by omega) (by omega), impl_within_eq, bnd_s, wk (by omega) (by omega), sel_nor, bnd_s]
      congr 1
      cases packetOk p <;> rw [Bool.eq_iff_iff] <;> simp <;> omega
     by_cases h : packetOk p = true ∧ last < seqGap q.Next p.Seq ∧ seqGap q.Next p.Seq < 40
     ·
      rw [lgo (by rw [hstep, sel_neg (by simp [h])]) rfl]
      have := ih (a ++ [p]) (seqGap q.Next p.Seq) (by rw [ha]; simp) (by omega) (by omega)
      rw [List.length_append, List.length_singleton] at this
      rw [this]
      simp [heldOk, h]
     ·
      rw [ldone (by rw [hstep, sel_pos (by simp only [Bool.not_eq_true', Bool.and_eq_false_iff, decide_eq_false_iff_not]; by_cases hp : packetOk p = true; exact .inr (fun e => h ⟨hp, e⟩); exact .inl (by simpa using hp))])]
      rw [if_neg]
      simp only [heldOk, Bool.and_eq_true, decide_eq_true_eq]
      exact fun e => h ⟨e.1.1, e.1.2⟩
   have := key q.Held [] (-1) rfl (by omega) (by omega)
   simp only [List.length_nil] at this
   rw [show (((-1 : Int), (0 : Int))) = ((-1), ((0 : Nat) : Int)) from rfl, this, bnd_s]
   by_cases h2 : heldOk q.Next (-1) q.Held = true
   ·
    rw [if_pos h2, h2, Bool.true_and]
    have st : ∀ i : Nat, i < 5 → impl_QueueOk_l4 q (i : Int) = sel (cnt (([q.Late, q.Far, q.Twice, q.Over, q.Lost]).getD i 0)) (some (.go ((i + 1 : Nat) : Int))) (some (.done (.ret false))) := by
     intro i hi
     unfold impl_QueueOk_l4
     simp only [List.length_cons, List.length_nil]
     rw [sel_yes (by omega), req_p (by omega), req_p (by omega), impl_within_eq, bnd_s, sel_n, wk (by omega) (by omega)]
     rfl
    have e5 : loop (impl_QueueOk_l4 q) ((5 : Nat) : Int) = some (.out ()) := ldone (by unfold impl_QueueOk_l4; rw [sel_no (by simp)])
    have go : ∀ i : Nat, i < 5 → loop (impl_QueueOk_l4 q) (i : Int) = sel (cnt (([q.Late, q.Far, q.Twice, q.Over, q.Lost]).getD i 0)) (loop (impl_QueueOk_l4 q) ((i + 1 : Nat) : Int)) (some (.ret false)) := by
     intro i hi
     have := st i hi
     cases h : cnt (([q.Late, q.Far, q.Twice, q.Over, q.Lost]).getD i 0) with
     | true => rw [h] at this; exact loop_go this
     | false => rw [h] at this; exact loop_done this
    have := go 0 (by omega)
    rw [show (0 : Int) = ((0 : Nat) : Int) from rfl, this, go 1 (by omega), go 2 (by omega), go 3 (by omega), go 4 (by omega), e5]
    simp only [cnts, List.getD_cons_zero, List.getD_cons_succ]
    cases cnt q.Late <;> cases cnt q.Far <;> cases cnt q.Twice <;> cases cnt q.Over <;> cases cnt q.Lost <;> rfl
   ·
    rw [if_neg h2]; simp only [Bool.not_eq_true] at h2; rw [h2]; rfl
  ·
   rw [sel_pos (by simp; omega), decide_eq_false h1, Bool.false_and]
 ·
  rw [sel_pos (by simpa using hb), if_neg hb]
  congr 1
  rw [Bool.eq_iff_iff]; simp
theorem heldOk_mem : ∀ {l : List Packet} {n last : Int}, heldOk n last l = true → ∀ p ∈ l, packetOk p = true
 | [], _, _, _, p, hp => by simp at hp
 | q :: r, n, last, h, p, hp => by
  rw [heldOk, Bool.and_eq_true, Bool.and_eq_true] at h
  rcases List.mem_cons.1 hp with rfl | hp
  ·
   exact h.1.1
  ·
   exact heldOk_mem h.2 p hp
theorem queueOk_held {q : Queue} (h : queueOk q = true) : 0 ≤ q.Next ∧ q.Next ≤ 65535 ∧ q.Held.length ≤ 24 ∧ 0 ≤ q.Age ∧ q.Age ≤ 20 ∧ cnts q = true ∧ ∀ p ∈ q.Held, packetOk p = true := by
 unfold queueOk at h
 by_cases hb : q.Begun = true
 ·
  rw [if_pos hb, Bool.and_eq_true, Bool.and_eq_true, decide_eq_true_eq] at h
  exact ⟨h.1.1, h.1.2.1, h.1.2.2.2.2, h.1.2.2.1, h.1.2.2.2.1, h.2.2, heldOk_mem h.2.1⟩
 ·
  rw [if_neg hb, decide_eq_true_eq] at h
  obtain ⟨h1, h2, h3, h4, h5, h6, h7, h8⟩ := h
  have : q.Held = [] := List.length_eq_zero_iff.1 h3
  refine ⟨by omega, by omega, by omega, by omega, by omega, ?_, by rw [this]; simp⟩
  unfold cnts cnt; rw [h4, h5, h6, h7, h8]; rfl
theorem cnts_each {q : Queue} (h : cnts q = true) : cnt q.Late = true ∧ cnt q.Far = true ∧ cnt q.Twice = true ∧ cnt q.Over = true ∧ cnt q.Lost = true := by
 unfold cnts at h
 simp only [Bool.and_eq_true] at h
 exact ⟨h.1.1.1.1, h.1.1.1.2, h.1.1.2, h.1.2, h.2⟩
theorem impl_copyQueue_eq (q : Queue) (h : q.Held.length ≤ 1048576) : impl_copyQueue q = some q := by
 have hm : maxLen = 9223372036854775807 := rfl
 unfold impl_copyQueue
 rw [req_p (by simp only [List.length_nil]; omega), List.nil_append]
def hasSeq (s : Int) (l : List Packet) : Bool := l.any fun p => p.Seq == s
theorem has_loop (q : Queue) (s : Int) (f : Int → Option (Lp Int (Ou Unit Bool))) (hl : q.Held.length ≤ 1048576)
  (h : ∀ i : Nat, i < q.Held.length → f (i : Int) = sel (((q.Held.getD i dPacket).Seq) == s) (some (.done (.ret true))) (some (.go ((i + 1 : Nat) : Int)))) (h0 : f (q.Held.length : Int) = some (.done (.out ()))) :
  loop f 0 = some (if hasSeq s q.Held = true then .ret true else .out ()) := by
 have key : ∀ (r a : List Packet), q.Held = a ++ r → loop f (a.length : Int) = some (if hasSeq s r = true then .ret true else .out ()) := by
  intro r
  induction r with
  | nil => intro a ha; rw [List.append_nil] at ha; rw [ha] at h0; rw [loop_done h0]; rfl
  | cons p r ih =>
   intro a ha
   have hlen : a.length < q.Held.length := by rw [ha]; simp
   have hp : q.Held.getD a.length dPacket = p := by rw [ha]; exact getD_mid a p _ r
   have hs := h a.length hlen
   rw [hp] at hs
   by_cases e : p.Seq = s
   ·
    rw [sel_pos (by simpa using e)] at hs
    rw [loop_done hs, if_pos (by simp [hasSeq, e])]
   ·
    rw [sel_neg (by simpa using e)] at hs
    rw [loop_go hs]
    have := ih (a ++ [p]) (by rw [ha]; simp)
    rw [List.length_append, List.length_singleton] at this
    rw [this]
    have e2 : hasSeq s (p :: r) = hasSeq s r := by simp [hasSeq, e]
    rw [e2]
 exact key q.Held [] rfl
theorem impl_QueueHas_eq (q : Queue) (s : Int) : impl_QueueHas q s = some (queueOk q && hasSeq s q.Held) := by
 unfold impl_QueueHas
 rw [impl_QueueOk_eq, bnd_s, sel_n]
 cases h : queueOk q with
 | false => rfl
 | true =>
  have hq := queueOk_held h
  rw [sel_t, has_loop q s (impl_QueueHas_l2 q s) (by omega) (by
   intro i hi
   unfold impl_QueueHas_l2
   rw [sel_yes (by omega), req_p (by omega), wk (by omega) (by omega)]; rfl) (by unfold impl_QueueHas_l2; rw [sel_no (by omega)]), bnd_s]
  cases hasSeq s q.Held <;> rfl
def readyN (next : Int) : Nat → List Packet → Nat
 | _, [] => 0
 | i, p :: r => if p.Seq = seqPlus next i then (if p.Last = true then i + 1 else readyN next (i + 1) r) else 0
theorem readyN_le (next : Int) : ∀ (r : List Packet) (i : Nat), readyN next i r ≤ i + r.length
 | [], i => by simp [readyN]
 | p :: r, i => by
  rw [readyN]
  have := readyN_le next r (i + 1)
  split
  ·
   split
   ·
    simp
   ·
    simp; omega
  ·
   omega
theorem gap_iff {n s : Int} {i : Nat} (h1 : 0 ≤ n ∧ n ≤ 65535) (h2 : 0 ≤ s ∧ s ≤ 65535) (h3 : i ≤ 24) : seqGap n s = i ↔ s = seqPlus n i := by
 unfold seqGap seqPlus
 rw [if_pos (show 0 ≤ n ∧ n ≤ 65535 ∧ 0 ≤ s ∧ s ≤ 65535 by omega), if_pos (show 0 ≤ n ∧ n ≤ 65535 ∧ (0 : Int) ≤ (i : Int) ∧ (i : Int) ≤ 65535 by omega)]
 constructor
 ·
  intro h
  split at h
  ·
   omega
  ·
   split at h <;> omega
 ·
  intro h
  split
  ·
   omega
  ·
   split <;> omega
theorem seqPlus_succ {n : Int} {i : Nat} (h1 : 0 ≤ n ∧ n ≤ 65535) (h3 : i ≤ 24) : seqPlus (seqPlus n i) 1 = seqPlus n ((i + 1 : Nat) : Int) := by
 unfold seqPlus
 rw [if_pos (show 0 ≤ n ∧ n ≤ 65535 ∧ (0 : Int) ≤ (i : Int) ∧ (i : Int) ≤ 65535 by omega), if_pos (by omega), if_pos (by omega)]
 omega
def skipN (next : Int) : List Packet → Nat
 | [] => 0
 | p :: r => if p.First = true ∧ p.Seq ≠ next then 0 else skipN next r + 1
theorem skipN_le (next : Int) : ∀ r : List Packet, skipN next r ≤ r.length
 | [] => by simp [skipN]
 | p :: r => by
  rw [skipN]; have := skipN_le next r
  split
  ·
   omega
  ·
   simp; omega
def newNext (q : Queue) : Int := if skipN q.Next q.Held < q.Held.length then (q.Held.getD (skipN q.Next q.Held) dPacket).Seq else seqPlus (q.Held.getD (q.Held.length - 1) dPacket).Seq 1
def qtick (q : Queue) (w : Int) : Queue × List Packet × Int :=
 if queueOk q = true ∧ 0 ≤ w ∧ w ≤ 20 then
  (if 0 < readyN q.Next 0 q.Held then (⟨q.Begun, seqPlus q.Next (readyN q.Next 0 q.Held), 0, q.Held.drop (readyN q.Next 0 q.Held), q.Late, q.Far, q.Twice, q.Over, q.Lost⟩, q.Held.take (readyN q.Next 0 q.Held), 1)
  else if q.Held.length = 0 then (⟨q.Begun, q.Next, 0, q.Held, q.Late, q.Far, q.Twice, q.Over, q.Lost⟩, [], 0)
  else if q.Age < w then (⟨q.Begun, q.Next, q.Age + 1, q.Held, q.Late, q.Far, q.Twice, q.Over, q.Lost⟩, [], 0)
  else (⟨q.Begun, newNext q, 0, q.Held.drop (skipN q.Next q.Held), q.Late, q.Far, q.Twice, q.Over, more q.Lost⟩, [], 2))
 else (q, [], 0)
theorem cut_all {α : Type} (l : List α) (k : Nat) : (l.drop k).take (l.length - k) = l.drop k := List.take_of_length_le (by rw [List.length_drop]; omega)
def tickTaken (q : Queue) (r : Nat) : Queue × List Packet × Int := (⟨q.Begun, seqPlus q.Next r, 0, q.Held.drop r, q.Late, q.Far, q.Twice, q.Over, q.Lost⟩, q.Held.take r, 1)
theorem tick_loop (q : Queue) (h : queueOk q = true) : loop (impl_QueueTick_l2 q q) 0 = some (if 0 < readyN q.Next 0 q.Held then .ret (tickTaken q (readyN q.Next 0 q.Held)) else .out ()) := by
 have hm : maxLen = 9223372036854775807 := rfl
 have hq := queueOk_held h
 have key : ∀ (r a : List Packet), q.Held = a ++ r → loop (impl_QueueTick_l2 q q) (a.length : Int) = some (if 0 < readyN q.Next a.length r then .ret (tickTaken q (readyN q.Next a.length r)) else .out ()) := by
  intro r
  induction r with
  | nil =>
   intro a ha
   rw [List.append_nil] at ha
   refine ldone ?_
   unfold impl_QueueTick_l2
   rw [sel_no (by rw [ha]; omega)]; rfl
  | cons p r ih =>
   intro a ha
   have hlen : a.length < q.Held.length := by rw [ha]; simp
   have hp : q.Held.getD a.length dPacket = p := by rw [ha]; exact getD_mid a p _ r
   have hstep : impl_QueueTick_l2 q q (a.length : Int) = sel (p.Seq != seqPlus q.Next a.length) (some (.done (.out ()))) (sel p.Last (some (.done (.ret (⟨q.Begun, seqPlus p.Seq 1, 0, q.Held.drop (a.length + 1), q.Late, q.Far, q.Twice, q.Over, q.Lost⟩, q.Held.take (a.length + 1), 1)))) (some (.go ((a.length + 1 : Nat) : Int)))) := by
    unfold impl_QueueTick_l2
    rw [wk (e := (a.length : Int) + 1) (by omega) (by omega)]
    have e1 : ((a.length : Int) + 1).toNat = a.length + 1 := by omega
    simp only [Int.toNat_natCast, hp, e1, Int.toNat_zero, List.drop_zero, List.length_nil, List.nil_append, Nat.zero_add, Nat.sub_zero, cut_all]
    rw [sel_yes (by omega), req_p (by omega), req_p (by omega), impl_SeqPlus_eq, bnd_s, req_p (by omega), req_p (by simp only [List.length_take]; omega), req_p (by omega), req_p (by simp only [List.length_drop]; omega), impl_SeqPlus_eq, bnd_s]
    rfl
   by_cases e : p.Seq = seqPlus q.Next a.length
   ·
    rw [sel_neg (by simpa using e)] at hstep
    by_cases e2 : p.Last = true
    ·
     rw [sel_pos e2] at hstep
     rw [loop_done hstep, readyN, if_pos e, if_pos e2, if_pos (by omega), e, seqPlus_succ (by omega) (by omega)]
     rfl
    ·
     rw [sel_neg (by simpa using e2)] at hstep
     have := ih (a ++ [p]) (by rw [ha]; simp)
     rw [List.length_append, List.length_singleton] at this
     rw [loop_go hstep, readyN, if_pos e, if_neg e2, this]
   ·
    rw [sel_pos (by simpa using e)] at hstep
    rw [loop_done hstep, readyN, if_neg e]; rfl
 exact key q.Held [] rfl
theorem skip_impl (q : Queue) (n : Int) (hl : q.Held.length ≤ 24) : loop (impl_QueueTick_l4 q n) 0 = some (if skipN q.Next q.Held < q.Held.length then (q.Held.getD (skipN q.Next q.Held) dPacket).Seq else n, q.Held.drop (skipN q.Next q.Held)) := by
 have hm : maxLen = 9223372036854775807 := rfl
 have key : ∀ (r a : List Packet), q.Held = a ++ r → loop (impl_QueueTick_l4 q n) (a.length : Int) = some (if a.length + skipN q.Next r < q.Held.length then (q.Held.getD (a.length + skipN q.Next r) dPacket).Seq else n, q.Held.drop (a.length + skipN q.Next r)) := by
  intro r
  induction r with
  | nil =>
   intro a ha
   rw [List.append_nil] at ha
   refine ldone ?_
   unfold impl_QueueTick_l4
   rw [sel_no (by rw [ha]; omega)]
   rw [show skipN q.Next [] = 0 from rfl, Nat.add_zero, if_neg (by rw [ha]; omega), List.drop_eq_nil_of_le (by rw [ha]; omega)]
  | cons p r ih =>
   intro a ha
   have hlen : a.length < q.Held.length := by rw [ha]; simp
   have hp : q.Held.getD a.length dPacket = p := by rw [ha]; exact getD_mid a p _ r
   have hstep : impl_QueueTick_l4 q n (a.length : Int) = sel (p.First && p.Seq != q.Next) (some (.done (p.Seq, q.Held.drop a.length))) (some (.go ((a.length + 1 : Nat) : Int))) := by
    unfold impl_QueueTick_l4
    simp only [Int.toNat_natCast, hp, List.length_nil, List.nil_append, Nat.zero_add, cut_all]
    rw [sel_yes (by omega), req_p (by omega), req_p (by omega), req_p (by simp only [List.length_drop]; omega), wk (by omega) (by omega), sel_and, bnd_s]
    rfl
   by_cases e : p.First = true ∧ p.Seq ≠ q.Next
   ·
    rw [sel_pos (by simp [e])] at hstep
    rw [loop_done hstep, skipN, if_pos e, Nat.add_zero, if_pos hlen, hp]
   ·
    rw [sel_neg (by
     rw [Bool.and_eq_false_iff]
     by_cases h1 : p.First = true
     ·
      right; simp; exact Classical.byContradiction fun h2 => e ⟨h1, h2⟩
     ·
      left; simpa using h1)] at hstep
    have := ih (a ++ [p]) (by rw [ha]; simp)
    rw [List.length_append, List.length_singleton] at this
    rw [loop_go hstep, skipN, if_neg e, this, show a.length + 1 + skipN q.Next r = a.length + (skipN q.Next r + 1) by omega]
 have := key q.Held [] rfl
 simpa using this
theorem impl_QueueTick_eq (q : Queue) (w : Int) (hl : q.Held.length ≤ 1048576) : impl_QueueTick q w = some (qtick q w) := by
 unfold impl_QueueTick qtick
 rw [impl_copyQueue_eq q hl, bnd_s, impl_QueueOk_eq, bnd_s]
 by_cases h : queueOk q = true ∧ 0 ≤ w ∧ w ≤ 20
 ·
  rw [if_pos h, sel_pos h.1, impl_within_eq, bnd_s, bnd_s, sel_neg (by simpa using h.2), tick_loop q h.1, bnd_s]
  have hq := queueOk_held h.1
  by_cases hr0 : 0 < readyN q.Next 0 q.Held
  ·
   rw [if_pos hr0, if_pos hr0]; rfl
  ·
   rw [if_neg hr0, if_neg hr0]
   simp only
   by_cases h0 : q.Held.length = 0
   ·
    rw [if_pos h0, sel_pos (by simp [h0])]
   ·
    rw [if_neg h0, sel_neg (by simpa using h0)]
    by_cases ha : q.Age < w
    ·
     rw [if_pos ha, sel_yes ha, wk (by omega) (by omega)]
    ·
     rw [if_neg ha, sel_no ha, impl_counted_eq _ (cnts_each hq.2.2.2.2.2.1).2.2.2.2, bnd_s, wk (by omega) (by omega), req_p (by omega), impl_SeqPlus_eq, bnd_s, skip_impl q _ hq.2.2.1, bnd_s]
     rw [show ((q.Held.length : Int) - 1).toNat = q.Held.length - 1 by omega]
     rfl
 ·
  rw [if_neg h]
  cases hb : queueOk q with
  | false => rw [sel_f, bnd_s, sel_t]
  | true =>
   have h' : ¬ (0 ≤ w ∧ w ≤ 20) := fun e => h ⟨hb, e⟩
   rw [sel_t, impl_within_eq, bnd_s, bnd_s, sel_pos (by simp; omega)]
def putL (n g : Int) (p : Packet) : List Packet → List Packet
 | [] => [p]
 | x :: r => if g < seqGap n x.Seq then p :: x :: r else x :: putL n g p r
def holdN (n g : Int) : List Packet → Nat
 | [] => 0
 | x :: r => if seqGap n x.Seq < g then holdN n g r + 1 else 0
theorem holdN_le (n g : Int) : ∀ r : List Packet, holdN n g r ≤ r.length
 | [] => by simp [holdN]
 | x :: r => by
  rw [holdN]; have := holdN_le n g r
  split
  ·
   simp; omega
  ·
   omega
theorem put_hold (n g : Int) (p : Packet) : ∀ r : List Packet, (∀ x ∈ r, seqGap n x.Seq ≠ g) → putL n g p r = r.take (holdN n g r) ++ [p] ++ r.drop (holdN n g r)
 | [], _ => rfl
 | x :: r, h => by
  have h1 := h x (by simp)
  rw [putL, holdN]
  by_cases e : seqGap n x.Seq < g
  ·
   rw [if_pos e, if_neg (by omega), put_hold n g p r (fun y hy => h y (by simp [hy]))]
   simp
  ·
   rw [if_neg e, if_pos (by omega)]; rfl
theorem impl_hold_eq (q : Queue) (p : Packet) (hl : q.Held.length ≤ 24) : impl_Queue_hold_d q p = some (⟨q.Begun, q.Next, q.Age, q.Held.take (holdN q.Next (seqGap q.Next p.Seq) q.Held) ++ [p] ++ q.Held.drop (holdN q.Next (seqGap q.Next p.Seq) q.Held), q.Late, q.Far, q.Twice, q.Over, q.Lost⟩ : Queue) := by
 have hm : maxLen = 9223372036854775807 := rfl
 unfold impl_Queue_hold_d
 generalize hg : seqGap q.Next p.Seq = g
 have key : ∀ (r a : List Packet), q.Held = a ++ r → loop (impl_Queue_hold_d_l2 q p) (a.length : Int) = some ((a.length + holdN q.Next g r : Nat) : Int) := by
  intro r
  induction r with
  | nil =>
   intro a ha
   rw [List.append_nil] at ha
   refine ldone ?_
   unfold impl_Queue_hold_d_l2
   rw [sel_no (by rw [ha]; omega), bnd_s, sel_f]; rfl
  | cons x r ih =>
   intro a ha
   have hlen : a.length < q.Held.length := by rw [ha]; simp
   have hx : q.Held.getD a.length dPacket = x := by rw [ha]; exact getD_mid a x _ r
   have hstep : impl_Queue_hold_d_l2 q p (a.length : Int) = sel (decide (seqGap q.Next x.Seq < g)) (some (.go ((a.length + 1 : Nat) : Int))) (some (.done (a.length : Int))) := by
    unfold impl_Queue_hold_d_l2
    simp only [Int.toNat_natCast, hx]
    rw [sel_yes (by omega), req_p (by omega), req_p (by omega), impl_SeqGap_eq, bnd_s, impl_SeqGap_eq, bnd_s, bnd_s, hg, wk (by omega) (by omega)]
    rfl
   rw [holdN]
   by_cases e : seqGap q.Next x.Seq < g
   ·
    rw [sel_yes e] at hstep
    have := ih (a ++ [x]) (by rw [ha]; simp)
    rw [List.length_append, List.length_singleton] at this
    rw [loop_go hstep, this, if_pos e]
    congr 2
    omega
   ·
    rw [sel_no e] at hstep
    rw [loop_done hstep, if_neg e]; rfl
 have := key q.Held [] rfl
 simp only [List.length_nil, Nat.zero_add] at this
 rw [show (0 : Int) = ((0 : Nat) : Int) from rfl, this, bnd_s]
 have hn := holdN_le q.Next g q.Held
 generalize holdN q.Next g q.Held = k at hn ⊢
 simp only [Int.toNat_natCast, List.drop_zero, List.length_nil, List.nil_append, Nat.zero_add, Nat.sub_zero, cut_all]
 rw [req_p (by omega), req_p (by simp only [List.length_take]; omega), req_p (by simp only [List.length_take, List.length_singleton]; omega), req_p (by omega), req_p (by simp only [List.length_take, List.length_append, List.length_drop, List.length_singleton]; omega)]
noncomputable def lastN (q : Queue) : Int := (loop (impl_QueueIn_l4 q) 0).getD 0
theorem lastN_both (q : Queue) (h0 : 0 < q.Held.length) (hl : q.Held.length ≤ 24) : loop (impl_QueueIn_l4 q) 0 = some (lastN q) ∧ 0 ≤ lastN q ∧ lastN q < q.Held.length := by
 obtain ⟨o, h, h1, h2⟩ := loop_inv (f := impl_QueueIn_l4 q) (fun v => 0 ≤ v ∧ v < q.Held.length) (fun v => q.Held.length - v.toNat) (fun _ o => 0 ≤ o ∧ o < q.Held.length) (by
  intro v ⟨h1, h2⟩
  unfold impl_QueueIn_l4
  rw [wk (by omega) (by omega)]
  by_cases hv : v < (q.Held.length : Int) - 1
  ·
   rw [sel_yes hv, req_p (by omega), bnd_s, sel_n, wk (by omega) (by omega)]
   cases (q.Held.getD v.toNat dPacket).Last with
   | true => exact .inl ⟨_, rfl, h1, h2⟩
   | false => exact .inr ⟨_, rfl, by omega, by omega, fun _ h => h⟩
  ·
   rw [sel_no hv, bnd_s, sel_f]
   exact .inl ⟨_, rfl, h1, h2⟩) 0 (by omega)
 unfold lastN; rw [h]; exact ⟨rfl, h1, h2⟩
theorem lastN_in (q : Queue) (h0 : 0 < q.Held.length) (hl : q.Held.length ≤ 24) : 0 ≤ lastN q ∧ lastN q < q.Held.length := (lastN_both q h0 hl).2
theorem lastN_impl (q : Queue) (h0 : 0 < q.Held.length) (hl : q.Held.length ≤ 24) : loop (impl_QueueIn_l4 q) 0 = some (lastN q) := (lastN_both q h0 hl).1
def putQ (q : Queue) (p : Packet) : Queue := ⟨q.Begun, q.Next, q.Age, putL q.Next (seqGap q.Next p.Seq) p q.Held, q.Late, q.Far, q.Twice, q.Over, q.Lost⟩
noncomputable def cutQ (q : Queue) : Queue := ⟨q.Begun, seqPlus (q.Held.getD (lastN q).toNat dPacket).Seq 1, 0, q.Held.drop ((lastN q).toNat + 1), q.Late, q.Far, q.Twice, more q.Over, q.Lost⟩
noncomputable def qin (q : Queue) (p : Packet) : Queue × Int :=
 if queueOk q = true then
  if packetOk p = true then
   if q.Begun = true then
    if seqGap q.Next p.Seq ≥ 40 ∨ seqGap q.Next p.Seq < -40 then (⟨q.Begun, p.Seq, 0, [p], q.Late, more q.Far, q.Twice, q.Over, q.Lost⟩, 4)
    else if seqGap q.Next p.Seq < 0 then (⟨q.Begun, q.Next, q.Age, q.Held, more q.Late, q.Far, q.Twice, q.Over, q.Lost⟩, 3)
    else if hasSeq p.Seq q.Held = true then (⟨q.Begun, q.Next, q.Age, q.Held, q.Late, q.Far, more q.Twice, q.Over, q.Lost⟩, 5)
    else if q.Held.length < 24 then (putQ q p, 0)
    else (if 0 ≤ seqGap (cutQ q).Next p.Seq ∧ seqGap (cutQ q).Next p.Seq ≤ 39 then putQ (cutQ q) p else cutQ q, 6)
   else (⟨true, p.Seq, 0, [p], 0, 0, 0, 0, 0⟩, 0)
  else (q, 2)
 else (q, 1)
theorem seqGap_inj {n a b : Int} (hn : 0 ≤ n ∧ n ≤ 65535) (ha : 0 ≤ a ∧ a ≤ 65535) (hb : 0 ≤ b ∧ b ≤ 65535) (h : seqGap n a = seqGap n b) : a = b := by
 unfold seqGap at h
 rw [if_pos (show 0 ≤ n ∧ n ≤ 65535 ∧ 0 ≤ a ∧ a ≤ 65535 by omega), if_pos (show 0 ≤ n ∧ n ≤ 65535 ∧ 0 ≤ b ∧ b ≤ 65535 by omega)] at h
 repeat' split at h
 all_goals omega
theorem seqPlus_in (a b : Int) : 0 ≤ seqPlus a b ∧ seqPlus a b ≤ 65535 := by
 unfold seqPlus; split <;> omega
theorem hold_put (q : Queue) (p : Packet) (hl : q.Held.length ≤ 24) (hn : 0 ≤ q.Next ∧ q.Next ≤ 65535) (hh : ∀ x ∈ q.Held, packetOk x = true) (hp : packetOk p = true) (hs : hasSeq p.Seq q.Held = false) : impl_Queue_hold_d q p = some (putQ q p) := by
 rw [impl_hold_eq q p hl]
 unfold putQ
 rw [put_hold]
 intro x hx e
 have h1 := (packetOk_iff x).1 (hh x hx)
 have h2 := (packetOk_iff p).1 hp
 have := seqGap_inj hn (by omega) (by omega) e
 have : hasSeq p.Seq q.Held = true := by
  unfold hasSeq; rw [List.any_eq_true]; exact ⟨x, hx, by simpa using this⟩
 rw [hs] at this; cases this
theorem impl_QueueIn_eq (q : Queue) (p : Packet) (hl : q.Held.length ≤ 1048576) : impl_QueueIn q p = some (qin q p) := by
 have hm : maxLen = 9223372036854775807 := rfl
 unfold impl_QueueIn qin
 rw [impl_copyQueue_eq q hl, bnd_s, impl_QueueOk_eq, bnd_s, sel_n]
 cases hok : queueOk q with
 | false => rfl
 | true =>
  have hq := queueOk_held hok
  have hc := cnts_each hq.2.2.2.2.2.1
  rw [sel_t, if_pos rfl, impl_PacketOk_eq, bnd_s, sel_n]
  cases hpk : packetOk p with
  | false => rfl
  | true =>
   rw [sel_t, if_pos rfl, sel_n]
   cases hb : q.Begun with
   | false =>
    unfold queueOk at hok
    rw [if_neg (by simp [hb]), decide_eq_true_eq] at hok
    obtain ⟨z1, z2, z3, z4, z5, z6, z7, z8⟩ := hok
    rw [sel_f, if_neg (by decide), z2, z4, z5, z6, z7, z8]
   | true =>
    rw [sel_t, if_pos rfl, impl_SeqGap_eq, bnd_s, sel_or, bnd_s]
    generalize hg : seqGap q.Next p.Seq = g
    by_cases h1 : g ≥ 40 ∨ g < -40
    ·
     rw [if_pos h1, sel_pos (by simpa using h1), impl_counted_eq _ hc.2.1, bnd_s]
    rw [if_neg h1, sel_neg (by simp; omega)]
    by_cases h2 : g < 0
    ·
     rw [if_pos h2, sel_yes h2, impl_counted_eq _ hc.1, bnd_s]
    rw [if_neg h2, sel_no h2, impl_QueueHas_eq, bnd_s, hok, Bool.true_and]
    cases h3 : hasSeq p.Seq q.Held with
    | true => rw [sel_t, if_pos rfl, impl_counted_eq _ hc.2.2.1, bnd_s]
    | false =>
     rw [sel_f, if_neg (by decide)]
     by_cases h4 : q.Held.length < 24
     ·
      rw [if_pos h4, sel_neg (by simp; omega), hold_put q p hq.2.2.1 (by omega) hq.2.2.2.2.2.2 hpk h3, bnd_s]
     rw [if_neg h4, sel_pos (by simp; omega)]
     obtain ⟨l2, l3⟩ := lastN_in q (by omega) hq.2.2.1
     rw [impl_counted_eq _ hc.2.2.2.1, bnd_s, lastN_impl q (by omega) hq.2.2.1, bnd_s, req_p (by omega), impl_SeqPlus_eq, bnd_s, wk (by omega) (by omega), req_p (by omega), Int.toNat_natCast, show (lastN q + 1).toNat = (lastN q).toNat + 1 by omega, cut_all]
     rw [impl_SeqGap_eq, bnd_s, impl_within_eq, bnd_s, sel_d]
     have hcut : (⟨true, seqPlus (q.Held.getD (lastN q).toNat dPacket).Seq 1, 0, q.Held.drop ((lastN q).toNat + 1), q.Late, q.Far, q.Twice, more q.Over, q.Lost⟩ : Queue) = cutQ q := by unfold cutQ; rw [hb]
     rw [hcut]
     have hn : seqPlus (q.Held.getD (lastN q).toNat dPacket).Seq 1 = (cutQ q).Next := rfl
     rw [hn]
     by_cases h5 : 0 ≤ seqGap (cutQ q).Next p.Seq ∧ seqGap (cutQ q).Next p.Seq ≤ 39
     ·
      have hs : hasSeq p.Seq (cutQ q).Held = false := by
       rw [Bool.eq_false_iff] at h3 ⊢
       intro e; apply h3
       unfold hasSeq at e ⊢
       rw [List.any_eq_true] at e ⊢
       obtain ⟨x, hx, e⟩ := e
       exact ⟨x, List.mem_of_mem_drop hx, e⟩
      rw [if_pos h5, if_pos h5, hold_put (cutQ q) p (by unfold cutQ; simp only [List.length_drop]; omega) (seqPlus_in _ _) (fun x hx => hq.2.2.2.2.2.2 x (List.mem_of_mem_drop hx)) hpk hs, bnd_s, bnd_s]
     ·
      rw [if_neg h5, if_neg h5, bnd_s]; unfold cutQ; rw [hb]
theorem gap_shift {n y : Int} {k : Nat} (hn : 0 ≤ n ∧ n ≤ 65535) (hy : 0 ≤ y ∧ y ≤ 65535) (h1 : (k : Int) ≤ seqGap n y) (h2 : seqGap n y < 41) : seqGap (seqPlus n k) y = seqGap n y - k := by
 unfold seqGap at h1 h2 ⊢
 unfold seqPlus
 rw [if_pos (show 0 ≤ n ∧ n ≤ 65535 ∧ 0 ≤ y ∧ y ≤ 65535 by omega)] at h1 h2 ⊢
 have hk : (k : Int) ≤ 40 := by
  repeat' split at h1
  all_goals (repeat' split at h2)
  all_goals omega
 rw [if_pos (show 0 ≤ n ∧ n ≤ 65535 ∧ (0 : Int) ≤ (k : Int) ∧ (k : Int) ≤ 65535 by omega), if_pos (by omega)]
 repeat' split at h1
 all_goals (repeat' split at h2)
 all_goals (repeat' split)
 all_goals omega
theorem heldOk_shift {n : Int} {k : Nat} (hn : 0 ≤ n ∧ n ≤ 65535) : ∀ {l : List Packet} {last : Int}, (k : Int) - 1 ≤ last → heldOk n last l = true → heldOk (seqPlus n k) (last - k) l = true
 | [], _, _, _ => rfl
 | p :: r, last, hl, h => by
  rw [heldOk, Bool.and_eq_true, Bool.and_eq_true, decide_eq_true_eq] at h ⊢
  have hp := (packetOk_iff p).1 h.1.1
  have e := gap_shift (k := k) hn (y := p.Seq) (by omega) (by omega) (by omega)
  rw [e]
  exact ⟨⟨h.1.1, by omega⟩, heldOk_shift hn (by omega) h.2⟩
theorem heldOk_drop {n : Int} : ∀ {l : List Packet} {last : Int} (k : Nat) (hk : k < l.length), heldOk n last l = true → last < seqGap n (l.getD k dPacket).Seq ∧ heldOk n (seqGap n (l.getD k dPacket).Seq) (l.drop (k + 1)) = true ∧ seqGap n (l.getD k dPacket).Seq < 40
 | [], _, k, hk, _ => by simp at hk
 | p :: r, last, 0, _, h => by
  rw [heldOk, Bool.and_eq_true, Bool.and_eq_true, decide_eq_true_eq] at h
  exact ⟨h.1.2.1, h.2, h.1.2.2⟩
 | p :: r, last, k + 1, hk, h => by
  rw [heldOk, Bool.and_eq_true, Bool.and_eq_true, decide_eq_true_eq] at h
  obtain ⟨h1, h2, h3⟩ := heldOk_drop (l := r) k (by simpa using hk) h.2
  exact ⟨by rw [List.getD_cons_succ]; omega, by rw [List.getD_cons_succ]; exact h2, by rw [List.getD_cons_succ]; exact h3⟩
theorem seq_of_gap {n : Int} {p : Packet} {k : Nat} (hn : 0 ≤ n ∧ n ≤ 65535) (hp : packetOk p = true) (h : seqGap n p.Seq = k) (hk : k ≤ 40) : p.Seq = seqPlus n k := by
 have h2 := (packetOk_iff p).1 hp
 unfold seqGap at h
 unfold seqPlus
 rw [if_pos (show 0 ≤ n ∧ n ≤ 65535 ∧ 0 ≤ p.Seq ∧ p.Seq ≤ 65535 by omega)] at h
 rw [if_pos (by omega)]
 repeat' split at h
 all_goals omega
theorem seqPlus_one {n : Int} {k : Nat} (hn : 0 ≤ n ∧ n ≤ 65535) (hk : k ≤ 40) : seqPlus (seqPlus n k) 1 = seqPlus n ((k + 1 : Nat) : Int) := by
 unfold seqPlus
 rw [if_pos (show 0 ≤ n ∧ n ≤ 65535 ∧ (0 : Int) ≤ (k : Int) ∧ (k : Int) ≤ 65535 by omega), if_pos (by omega), if_pos (by omega)]
 omega
theorem cnt_more {n : Int} (h : cnt n = true) : cnt (more n) = true := by
 unfold cnt more at *
 simp only [decide_eq_true_eq] at *
 split <;> omega
theorem queueOk_begun {q : Queue} (hb : q.Begun = true) : queueOk q = true ↔ (0 ≤ q.Next ∧ q.Next ≤ 65535 ∧ 0 ≤ q.Age ∧ q.Age ≤ 20 ∧ q.Held.length ≤ 24) ∧ heldOk q.Next (-1) q.Held = true ∧ cnts q = true := by
 unfold queueOk
 rw [if_pos hb, Bool.and_eq_true, Bool.and_eq_true, decide_eq_true_eq]
theorem cnts_of {q : Queue} (h1 : cnt q.Late = true) (h2 : cnt q.Far = true) (h3 : cnt q.Twice = true) (h4 : cnt q.Over = true) (h5 : cnt q.Lost = true) : cnts q = true := by
 unfold cnts; rw [h1, h2, h3, h4, h5]; rfl
theorem ready_gap {n : Int} (hn : 0 ≤ n ∧ n ≤ 65535) : ∀ {l : List Packet} {i : Nat}, i + l.length ≤ 24 → heldOk n ((i : Int) - 1) l = true → 0 < readyN n i l → i < readyN n i l ∧ heldOk n ((readyN n i l : Int) - 1) (l.drop (readyN n i l - i)) = true
 | [], i, _, _, h => by simp [readyN] at h
 | p :: r, i, hi, h, h0 => by
  rw [readyN] at h0 ⊢
  rw [heldOk, Bool.and_eq_true, Bool.and_eq_true, decide_eq_true_eq] at h
  have hp := (packetOk_iff p).1 h.1.1
  have hl : (p :: r).length = r.length + 1 := rfl
  by_cases e : p.Seq = seqPlus n i
  ·
   rw [if_pos e] at h0 ⊢
   have hg : seqGap n p.Seq = i := (gap_iff (by omega) (by omega) (by omega)).2 e
   rw [hg] at h
   by_cases e2 : p.Last = true
   ·
    rw [if_pos e2]
    refine ⟨by omega, ?_⟩
    rw [show i + 1 - i = 1 by omega, List.drop_succ_cons, List.drop_zero, show ((i + 1 : Nat) : Int) - 1 = i by omega]
    exact h.2
   ·
    rw [if_neg e2] at h0 ⊢
    obtain ⟨a, b⟩ := ready_gap hn (l := r) (i := i + 1) (by omega) (by rw [show ((i + 1 : Nat) : Int) - 1 = i by omega]; exact h.2) h0
    refine ⟨by omega, ?_⟩
    rw [show readyN n (i + 1) r - i = (readyN n (i + 1) r - (i + 1)) + 1 by omega, List.drop_succ_cons]
    exact b
  ·
   rw [if_neg e] at h0; omega
theorem qtick_ok {q : Queue} {w : Int} (h : queueOk q = true) : queueOk (qtick q w).1 = true := by
 have hq := queueOk_held h
 have hc := cnts_each hq.2.2.2.2.2.1
 unfold qtick
 by_cases hw : queueOk q = true ∧ 0 ≤ w ∧ w ≤ 20
 ·
  rw [if_pos hw]
  cases hb : q.Begun with
  | false =>
   have h2 := h
   unfold queueOk at h2
   rw [if_neg (by simp [hb]), decide_eq_true_eq] at h2
   obtain ⟨z1, z2, z3, z4, z5, z6, z7, z8⟩ := h2
   have hh : q.Held = [] := List.length_eq_zero_iff.1 z3
   rw [hh, if_neg (by simp [readyN]), if_pos (show ([] : List Packet).length = 0 from rfl)]
   unfold queueOk
   rw [if_neg (by simp), decide_eq_true_eq]
   exact ⟨z1, rfl, rfl, z4, z5, z6, z7, z8⟩
  | true =>
   have h' := (queueOk_begun hb).1 h
   have hr := readyN_le q.Next q.Held 0
   by_cases h0 : 0 < readyN q.Next 0 q.Held
   ·
    rw [if_pos h0]
    obtain ⟨_, b⟩ := ready_gap (by omega) (by omega) (by exact h'.2.1) h0
    have := heldOk_shift (k := readyN q.Next 0 q.Held) (by omega) (by omega) b
    rw [Nat.sub_zero, show ((readyN q.Next 0 q.Held : Int)) - 1 - (readyN q.Next 0 q.Held : Int) = -1 by omega] at this
    exact (queueOk_begun rfl).2 ⟨⟨(seqPlus_in _ _).1, (seqPlus_in _ _).2, Int.le_refl _, (by decide : (0 : Int) ≤ 20), by simp only [List.length_drop]; omega⟩, this, cnts_of hc.1 hc.2.1 hc.2.2.1 hc.2.2.2.1 hc.2.2.2.2⟩
   rw [if_neg h0]
   by_cases h1 : q.Held.length = 0
   ·
    rw [if_pos h1]
    exact (queueOk_begun rfl).2 ⟨⟨h'.1.1, h'.1.2.1, Int.le_refl _, (by decide : (0 : Int) ≤ 20), h'.1.2.2.2.2⟩, h'.2.1, h'.2.2⟩
   rw [if_neg h1]
   by_cases h2 : q.Age < w
   ·
    rw [if_pos h2]
    exact (queueOk_begun rfl).2 ⟨⟨h'.1.1, h'.1.2.1, by simp only; omega, by simp only; omega, h'.1.2.2.2.2⟩, h'.2.1, h'.2.2⟩
   rw [if_neg h2]
   have hcn : cnts (⟨true, newNext q, 0, q.Held.drop (skipN q.Next q.Held), q.Late, q.Far, q.Twice, q.Over, more q.Lost⟩ : Queue) = true := cnts_of hc.1 hc.2.1 hc.2.2.1 hc.2.2.2.1 (cnt_more hc.2.2.2.2)
   have hs := skipN_le q.Next q.Held
   unfold newNext at hcn ⊢
   generalize skipN q.Next q.Held = s at hs hcn ⊢
   by_cases h3 : s < q.Held.length
   ·
    rw [if_pos h3] at hcn ⊢
    have hpk := hq.2.2.2.2.2.2 (q.Held.getD s dPacket) (by rw [getD_at _ _ h3]; exact List.getElem_mem _)
    have hpk' := (packetOk_iff _).1 hpk
    obtain ⟨d1, d2, d3⟩ := heldOk_drop s h3 h'.2.1
    obtain ⟨k, hk⟩ : ∃ k : Nat, seqGap q.Next (q.Held.getD s dPacket).Seq = k := ⟨(seqGap q.Next (q.Held.getD s dPacket).Seq).toNat, by omega⟩
    have hd : heldOk q.Next ((k : Int) - 1) (q.Held.drop s) = true := by
     rw [drop_at _ s h3 dPacket, heldOk, Bool.and_eq_true, Bool.and_eq_true, decide_eq_true_eq]
     exact ⟨⟨hpk, by omega, by omega⟩, d2⟩
    have := heldOk_shift (k := k) (by omega) (by omega) hd
    rw [show (k : Int) - 1 - k = -1 by omega, ← seq_of_gap (by omega) hpk hk (by omega)] at this
    exact (queueOk_begun rfl).2 ⟨⟨by simp only; omega, by simp only; omega, Int.le_refl _, (by decide : (0 : Int) ≤ 20), by simp only [List.length_drop]; omega⟩, this, hcn⟩
   ·
    rw [if_neg h3] at hcn ⊢
    have hd : q.Held.drop s = [] := List.drop_eq_nil_of_le (by omega)
    rw [hd] at hcn ⊢
    exact (queueOk_begun rfl).2 ⟨⟨(seqPlus_in _ _).1, (seqPlus_in _ _).2, Int.le_refl _, (by decide : (0 : Int) ≤ 20), by simp⟩, rfl, hcn⟩
 ·
  rw [if_neg hw]; exact h
theorem spec_l01PickInt_ev (c : L01Cur) (l : List Int) (hc : curOk c) (hl : 0 < l.length) (hl2 : l.length ≤ 1000) : ∃ x c', spec_l01PickInt c l = some (x, c') ∧ x ∈ l ∧ curOk c' := by
 unfold spec_l01PickInt
 obtain ⟨x, c', e, a, b, _, h⟩ := spec_l01Below_ev c l.length hc
 have b' := b (by omega)
 rw [e, bnd_s]
 simp only
 rw [req_p (by omega)]
 refine ⟨_, _, rfl, ?_, h⟩
 rw [getD_at l _ (by omega)]; exact List.getElem_mem _
theorem spec_l22Seq_ev (c : L01Cur) (hc : curOk c) : ∃ x c', spec_l22Seq c = some (x, c') ∧ 0 ≤ x ∧ x ≤ 65535 ∧ curOk c' := by
 unfold spec_l22Seq
 obtain ⟨b, c1, e1, h1⟩ := spec_l01Once_ev c 3 hc
 rw [e1, bnd_s]
 cases b with
 | true =>
  obtain ⟨x, c2, e2, hx, h2⟩ := spec_l01PickInt_ev c1 [0, 65535, 65530, 65520, 32767, 32768] h1 (by decide) (by decide)
  simp only [sel_t]
  rw [e2, bnd_s]
  refine ⟨_, _, rfl, ?_, ?_, h2⟩
  all_goals (simp only [List.mem_cons, List.not_mem_nil, or_false] at hx; simp only; omega)
 | false =>
  obtain ⟨x, c2, e2, a, b, _, h2⟩ := spec_l01Below_ev c1 65536 h1
  have b' := b (by omega)
  simp only [sel_f]
  rw [e2, bnd_s]
  exact ⟨_, _, rfl, a, by simp only; omega, h2⟩
theorem laws_samePackets_self (l : List Packet) (hl : l.length ≤ 1048600) : laws_samePackets l l = some true := by
 unfold laws_samePackets
 rw [sel_neg (by simp), self_loop l.length (f := laws_samePackets_l2 l l) (by
  intro i hi
  unfold laws_samePackets_l2
  rw [sel_yes (by omega), req_p (by omega), req_p (by omega), sel_neg (by simp), wk (by omega) (by omega)]
  rfl) (by unfold laws_samePackets_l2; rw [sel_no (by omega)])]
 rfl
def okSide (n : Int) : Bool := decide (1 ≤ n ∧ n ≤ 8)
def isum : List Int → Int
 | [] => 0
 | x :: r => x + isum r
def okSides (l : List Int) : Bool := decide (1 ≤ l.length ∧ l.length ≤ 4) && l.all okSide
def sumIf (l : List Int) : Int := if okSides l = true then isum l else 0
theorem isum_bounds : ∀ {l : List Int}, l.all okSide = true → (l.length : Int) ≤ isum l ∧ isum l ≤ 8 * l.length
 | [], _ => by simp [isum]
 | x :: r, h => by
  rw [List.all_cons, Bool.and_eq_true] at h
  have := isum_bounds h.2
  have hx := h.1
  unfold okSide at hx
  simp only [decide_eq_true_eq] at hx
  rw [isum, List.length_cons]
  omega
theorem sumIf_bounds (l : List Int) : 0 ≤ sumIf l ∧ sumIf l ≤ 32 := by
 unfold sumIf
 split
 ·
  rename_i h
  unfold okSides at h
  rw [Bool.and_eq_true, decide_eq_true_eq] at h
  have := isum_bounds h.2
  omega
 ·
  omega
theorem spec_l05Sum_eq (l : List Int) : spec_l05Sum l = some (sumIf l) := by
 unfold spec_l05Sum sumIf okSides
 rw [sel_or, bnd_s]
 by_cases h : 1 ≤ l.length ∧ l.length ≤ 4
 ·
  rw [sel_neg (by simp; omega), decide_eq_true h, Bool.true_and]
  have key : ∀ (r a : List Int) (t : Int), l = a ++ r → 0 ≤ t → t ≤ 8 * a.length → loop (spec_l05Sum_l2 l) (t, (a.length : Int)) = some (if r.all okSide = true then .out (t + isum r) else .ret 0) := by
   intro r
   induction r with
   | nil =>
    intro a t ha h0 h1
    rw [List.append_nil] at ha
    refine ldone ?_
    unfold spec_l05Sum_l2
    simp only
    rw [sel_no (by rw [ha]; omega)]
    simp [isum]
   | cons x r ih =>
    intro a t ha h0 h1
    have hlen : a.length < l.length := by rw [ha]; simp
    have hx : l.getD a.length 0 = x := by rw [ha]; exact getD_mid a x _ r
    have hstep : spec_l05Sum_l2 l (t, (a.length : Int)) = sel (okSide x) (some (.go (wrapK .i64 (t + x), ((a.length + 1 : Nat) : Int)))) (some (.done (.ret 0))) := by
     unfold spec_l05Sum_l2
     simp only [Int.toNat_natCast, hx]
     rw [sel_yes (by omega), req_p (by omega), spec_l01In_eq, bnd_s, sel_n, req_p (by omega), wk (e := (a.length : Int) + 1) (by omega) (by omega)]
     rfl
    cases e : okSide x with
    | true =>
     rw [e] at hstep
     have hx2 := e
     unfold okSide at hx2
     simp only [decide_eq_true_eq] at hx2
     rw [wk (by omega) (by omega), sel_t] at hstep
     have := ih (a ++ [x]) (t + x) (by rw [ha]; simp) (by omega) (by simp; omega)
     rw [List.length_append, List.length_singleton] at this
     rw [loop_go hstep, this, List.all_cons, e, Bool.true_and, isum, Int.add_assoc]
    | false =>
     rw [e, sel_f] at hstep
     rw [loop_done hstep, List.all_cons, e, Bool.false_and]; rfl
  have := key l [] 0 rfl (by omega) (by simp)
  simp only [List.length_nil, Int.zero_add] at this
  rw [show (((0 : Int), (0 : Int))) = (0, ((0 : Nat) : Int)) from rfl, this, bnd_s]
  cases l.all okSide <;> rfl
 ·
  rw [sel_pos (by simp; omega), decide_eq_false h, Bool.false_and]; rfl
def squares (s : Seq) : Int := sumIf s.Cols * sumIf s.Rows
theorem squares_bounds (s : Seq) : 0 ≤ squares s ∧ squares s ≤ 1024 := by
 unfold squares
 have h1 := sumIf_bounds s.Cols
 have h2 := sumIf_bounds s.Rows
 refine ⟨Int.mul_nonneg h1.1 h2.1, ?_⟩
 calc sumIf s.Cols * sumIf s.Rows ≤ 32 * sumIf s.Rows := Int.mul_le_mul_of_nonneg_right h1.2 h2.1
  _ ≤ 1024 := by omega
theorem spec_SquaresOf_eq (s : Seq) : spec_SquaresOf s = some (squares s) := by
 have h := squares_bounds s
 unfold spec_SquaresOf
 rw [spec_l05Sum_eq, bnd_s, spec_l05Sum_eq, bnd_s, wk (by show _ ≤ squares s; omega) (by show squares s ≤ _; omega)]
 rfl
def levelSquares (n : Int) : Int := if n = 1 then 16 else if n = 2 then 64 else if n = 3 then 256 else 0
theorem spec_LevelSquares_eq (n : Int) : spec_LevelSquares n = some (levelSquares n) := by
 unfold spec_LevelSquares levelSquares
 simp only [sel_ite, beq_iff_eq]
 repeat' split
 all_goals rfl
def seqOk (s : Seq) : Bool := decide (1 ≤ squares s ∧ squares s ≤ levelSquares s.Level) && decide (3 ≤ s.Bits ∧ s.Bits ≤ 8)
theorem spec_SeqOk_eq (s : Seq) : spec_SeqOk s = some (seqOk s) := by
 unfold spec_SeqOk seqOk
 simp only [spec_SquaresOf_eq, spec_LevelSquares_eq, spec_l01In_eq, bnd_s, sel_and]
theorem seqOk_sides {s : Seq} (h : seqOk s = true) : okSides s.Cols = true ∧ okSides s.Rows = true ∧ 3 ≤ s.Bits ∧ s.Bits ≤ 8 := by
 unfold seqOk at h
 rw [Bool.and_eq_true, decide_eq_true_eq, decide_eq_true_eq] at h
 obtain ⟨⟨h1, _⟩, h3⟩ := h
 unfold squares sumIf at h1
 refine ⟨?_, ?_, h3⟩
 ·
  refine Classical.byContradiction fun e => ?_
  rw [if_neg e, Int.zero_mul] at h1; omega
 ·
  refine Classical.byContradiction fun e => ?_
  rw [if_neg e, Int.mul_zero] at h1; omega
def levelFor (c r : List Int) : Int := if seqOk ⟨1, 3, c, r⟩ = true then 1 else if seqOk ⟨2, 3, c, r⟩ = true then 2 else if seqOk ⟨3, 3, c, r⟩ = true then 3 else 0
theorem level_loop (c r : List Int) (f : Int → Option (Lp Int (Ou Unit Int))) (h : ∀ n : Int, n ≤ 3 → 1 ≤ n → f n = sel (seqOk ⟨n, 3, c, r⟩) (some (.done (.ret n))) (some (.go (n + 1)))) (h4 : f 4 = some (.done (.out ()))) :
  (bnd (loop f 1) fun o => match o with | .out _ => some 0 | .ret r => some r) = some (levelFor c r) := by
 have h1 := h 1 (by omega) (by omega)
 have h2 := h 2 (by omega) (by omega)
 have h3 := h 3 (by omega) (by omega)
 unfold levelFor
 cases e1 : seqOk ⟨1, 3, c, r⟩ with
 | true => rw [e1, sel_t] at h1; rw [loop_done h1]; rfl
 | false =>
  rw [e1, sel_f] at h1
  rw [loop_go h1]
  cases e2 : seqOk ⟨2, 3, c, r⟩ with
  | true => rw [e2, sel_t] at h2; rw [show (1 : Int) + 1 = 2 from rfl, loop_done h2]; rfl
  | false =>
   rw [e2, sel_f] at h2
   rw [show (1 : Int) + 1 = 2 from rfl, loop_go h2]
   cases e3 : seqOk ⟨3, 3, c, r⟩ with
   | true => rw [e3, sel_t] at h3; rw [show (2 : Int) + 1 = 3 from rfl, loop_done h3]; rfl
   | false =>
    rw [e3, sel_f] at h3
    rw [show (2 : Int) + 1 = 3 from rfl, loop_go h3, show (3 : Int) + 1 = 4 from rfl, loop_done h4]; rfl
theorem spec_LevelFor_eq (c r : List Int) : spec_LevelFor c r = some (levelFor c r) := by
 unfold spec_LevelFor
 refine level_loop c r _ (fun n h1 h2 => ?_) ?_
 ·
  unfold spec_LevelFor_l2
  rw [sel_yes h1, spec_SeqOk_eq, bnd_s, wk (by omega) (by omega)]
 ·
  unfold spec_LevelFor_l2; rw [sel_no (by omega)]
def tilesOf (s : Seq) : Int := if seqOk s = true then (s.Cols.length : Int) * s.Rows.length else 0
theorem okSides_len {l : List Int} (h : okSides l = true) : 1 ≤ l.length ∧ l.length ≤ 4 := by
 unfold okSides at h; rw [Bool.and_eq_true, decide_eq_true_eq] at h; exact h.1
theorem tiles_small {s : Seq} (h : seqOk s = true) : 1 ≤ (s.Cols.length : Int) * s.Rows.length ∧ (s.Cols.length : Int) * s.Rows.length ≤ 16 := by
 obtain ⟨h1, h2, _⟩ := seqOk_sides h
 have a := okSides_len h1
 have b := okSides_len h2
 have e : ∀ x y : Nat, 1 ≤ x → x ≤ 4 → 1 ≤ y → y ≤ 4 → 1 ≤ x * y ∧ x * y ≤ 16 := by
  intro x y h1 h2 h3 h4
  rcases (show x = 1 ∨ x = 2 ∨ x = 3 ∨ x = 4 by omega) with rfl | rfl | rfl | rfl <;> omega
 have := e _ _ a.1 a.2 b.1 b.2
 rw [← Int.natCast_mul]; omega
theorem spec_TilesOf_eq (s : Seq) : spec_TilesOf s = some (tilesOf s) := by
 unfold spec_TilesOf tilesOf
 rw [spec_SeqOk_eq, bnd_s, sel_n]
 cases h : seqOk s with
 | false => rfl
 | true => have := tiles_small h; rw [sel_t, wk (by omega) (by omega), if_pos rfl]
def sizeOfS (s : Seq) : Int × Int := if seqOk s = true then (8 * isum s.Cols, 8 * isum s.Rows) else (0, 0)
theorem isum_ok {l : List Int} (h : okSides l = true) : 1 ≤ isum l ∧ isum l ≤ 32 := by
 unfold okSides at h
 rw [Bool.and_eq_true, decide_eq_true_eq] at h
 have := isum_bounds h.2
 omega
theorem spec_SizeOf_eq (s : Seq) : spec_SizeOf s = some (sizeOfS s) := by
 unfold spec_SizeOf sizeOfS
 rw [spec_SeqOk_eq, bnd_s, sel_n]
 cases h : seqOk s with
 | false => rfl
 | true =>
  obtain ⟨h1, h2, _⟩ := seqOk_sides h
  have a := isum_ok h1
  have b := isum_ok h2
  rw [sel_t, spec_l05Sum_eq, bnd_s, spec_l05Sum_eq, bnd_s, if_pos rfl]
  unfold sumIf
  rw [if_pos h1, if_pos h2, wk (by omega) (by omega), wk (by omega) (by omega)]
def parOk (p : Par) : Bool := decide (0 ≤ p.Qp ∧ p.Qp ≤ 40) && !(p.Large && p.Exact)
theorem spec_ParOk_eq (p : Par) : spec_ParOk p = some (parOk p) := by
 unfold spec_ParOk parOk
 rw [spec_l01In_eq, bnd_s, sel_nor, sel_and, bnd_s]
 cases p.Large <;> cases p.Exact <;> rfl
def picOk (p : Pic) : Bool := decide (1 ≤ p.Wide ∧ p.Wide ≤ 256) && (decide (1 ≤ p.High ∧ p.High ≤ 256) && ((p.Dots.size : Int) == p.Wide * p.High))
theorem area_small {w h : Int} (h1 : 1 ≤ w ∧ w ≤ 256) (h2 : 1 ≤ h ∧ h ≤ 256) : 1 ≤ w * h ∧ w * h ≤ 65536 := by
 have a : w * 1 ≤ w * h := Int.mul_le_mul_of_nonneg_left h2.1 (by omega)
 have b : w * h ≤ 256 * h := Int.mul_le_mul_of_nonneg_right h1.2 (by omega)
 omega
theorem spec_PicOk_eq (p : Pic) : spec_PicOk p = some (picOk p) := by
 unfold spec_PicOk picOk
 simp only [spec_l01In_eq, bnd_s, sel_and]
 by_cases h1 : 1 ≤ p.Wide ∧ p.Wide ≤ 256
 ·
  by_cases h2 : 1 ≤ p.High ∧ p.High ≤ 256
  ·
   have := area_small h1 h2
   rw [wk (by omega) (by omega)]
  ·
   rw [decide_eq_false h2, Bool.false_and, Bool.false_and]
 ·
  rw [decide_eq_false h1, Bool.false_and, Bool.false_and]
def fitsS (p : Pic) (s : Seq) : Bool := picOk p && ((p.Wide == (sizeOfS s).1) && (p.High == (sizeOfS s).2))
theorem spec_RateOk_eq (r : Rate) : spec_RateOk r = some (rateOk r) := by
 unfold spec_RateOk rateOk
 simp only [spec_l01In_eq, bnd_s]
 by_cases h1 : 0 ≤ r.Qp ∧ r.Qp ≤ 40
 ·
  rw [sel_yes h1]
  by_cases h2 : 1 ≤ r.Target ∧ r.Target ≤ 100000
  ·
   rw [sel_yes h2, wk (by omega) (by omega), wk (by omega) (by omega), bnd_s]
   simp only [h1.1, h1.2, h2.1, h2.2, true_and]
  ·
   rw [sel_no h2, bnd_s]; congr 1; symm; rw [decide_eq_false_iff_not]; exact fun h => h2 ⟨h.2.2.1, h.2.2.2.1⟩
 ·
  rw [sel_no h1, bnd_s]; congr 1; symm; rw [decide_eq_false_iff_not]; exact fun h => h1 ⟨h.1, h.2.1⟩
def sourceOk (s : Source) : Bool :=
 decide (tilesOf s.Seq = 1) && parOk s.Par && rateOk s.Rate && decide (0 ≤ s.Frame ∧ s.Frame < 2 ^ s.Seq.Bits.toNat) && decide ((1 ≤ s.Every ∧ s.Every ≤ 1000) ∧ (0 ≤ s.Since ∧ s.Since ≤ 1000) ∧ (0 ≤ s.Reach ∧ s.Reach ≤ 4)) &&
 (if s.Has = true then fitsS s.Ref s.Seq else decide (s.Ref.Wide = 0 ∧ s.Ref.High = 0 ∧ s.Ref.Dots.size = 0))
theorem bits_pow {b : Int} (h : 3 ≤ b ∧ b ≤ 8) : (2 : Int) ^ min b.toNat (IntKind.bits .i64) = 2 ^ b.toNat ∧ (8 : Int) ≤ 2 ^ b.toNat ∧ (2 : Int) ^ b.toNat ≤ 256 := by
 rcases (show b = 3 ∨ b = 4 ∨ b = 5 ∨ b = 6 ∨ b = 7 ∨ b = 8 by omega) with rfl | rfl | rfl | rfl | rfl | rfl <;> decide
theorem tiles_one {s : Seq} (h : tilesOf s = 1) : seqOk s = true := by
 unfold tilesOf at h
 refine Classical.byContradiction fun e => ?_
 rw [if_neg e] at h; cases h
theorem spec_SourceOk_eq (s : Source) (hb : (Lit.int .i64 s.Seq.Bits).wf = true) : spec_SourceOk s = some (sourceOk s) := by
 have hb' := wf64 hb
 unfold spec_SourceOk sourceOk
 rw [spec_TilesOf_eq, bnd_s]
 by_cases h1 : tilesOf s.Seq = 1
 ·
  have hs := (seqOk_sides (tiles_one h1)).2.2
  have hp := bits_pow hs
  have e64 : wrapK .u64 s.Seq.Bits = s.Seq.Bits := by
   show IntKind.wrap .u64 s.Seq.Bits = _
   simp [IntKind.wrap, IntKind.signed, IntKind.bits]; omega
  rw [sel_neg (by simp [h1]), e64, req_p (by omega), hp.1, wk (by omega) (by omega), spec_ParOk_eq, bnd_s, spec_RateOk_eq, bnd_s, sel_or, sel_nor, sel_nor, bnd_s]
  simp only [spec_l01In_eq, bnd_s, sel_nor]
  rw [decide_eq_true h1, Bool.true_and]
  cases hpar : parOk s.Par with
  | false => rfl
  | true =>
   cases hr : rateOk s.Rate with
   | false => rfl
   | true =>
    by_cases hf : 0 ≤ s.Frame ∧ s.Frame < 2 ^ s.Seq.Bits.toNat
    ·
     rw [sel_neg (by simp; omega), decide_eq_true hf]
     by_cases h3 : (1 ≤ s.Every ∧ s.Every ≤ 1000) ∧ (0 ≤ s.Since ∧ s.Since ≤ 1000) ∧ (0 ≤ s.Reach ∧ s.Reach ≤ 4)
     ·
      rw [sel_neg (by simp; omega), decide_eq_true h3, spec_SizeOf_eq, bnd_s]
      cases s.Has with
      | true =>
       rw [sel_t]
       simp only [spec_PicOk_eq, bnd_s, sel_and, fitsS]
       rfl
      | false =>
       rw [sel_f]
       simp only [bnd_s, sel_and]
       congr 1
       rw [Bool.eq_iff_iff]; simp
     ·
      rw [sel_pos (by simp; omega), decide_eq_false h3]; simp
    ·
     rw [sel_pos (by simp; omega), decide_eq_false hf]; simp
 ·
  rw [sel_pos (by simpa using h1), bnd_s, sel_t, decide_eq_false h1]; simp
def madeSource (c r b : Int) (p : Par) (t : Rate) (e n : Int) : Source := ⟨⟨levelFor [c] [r], b, [c], [r]⟩, p, t, 0, 0, e, n, false, ⟨0, 0, ⟨#[]⟩⟩⟩
theorem str_append (a b : List Int) : strOfNums a ++ strOfNums b = strOfNums (a ++ b) := by
 unfold strOfNums
 rw [List.map_append]
 apply ByteArray.ext
 simp
theorem str_nil : (⟨#[]⟩ : ByteArray) = strOfNums [] := rfl
def byteL (l : List Int) : Prop := ∀ x ∈ l, 0 ≤ x ∧ x ≤ 255
theorem nums_str (l : List Int) (h : byteL l) : numsOf (strOfNums l) = l := by
 unfold numsOf
 rw [strOfNums_data, List.map_map]
 have : ∀ x ∈ l, ((fun b : UInt8 => (b.toNat : Int)) ∘ fun n : Int => UInt8.ofNat n.toNat) x = x := by
  intro x hx
  have := h x hx
  simp only [Function.comp_apply, UInt8.toNat_ofNat']
  omega
 rw [List.map_congr_left this, List.map_id']
theorem bt_str (l : List Int) (h : byteL l) (i : Nat) (hi : i < l.length) : btOf (strOfNums l) (i : Int) = l.getD i 0 := by
 unfold btOf
 rw [dif_pos (by rw [Int.toNat_natCast, strOfNums_size]; exact hi)]
 have hx := h l[i] (List.getElem_mem hi)
 rw [getD_at l i hi]
 show ((((l.map fun n => UInt8.ofNat n.toNat).toArray)[(i : Int).toNat]'(by simpa using hi)).toNat : Int) = _
 simp only [Int.toNat_natCast, List.getElem_toArray, List.getElem_map, UInt8.toNat_ofNat']
 omega
def fixL : Nat → Int → List Int
 | 0, _ => []
 | w + 1, n => fixL w (n / 2) ++ [48 + n % 2]
theorem fixL_len : ∀ (w : Nat) (n : Int), (fixL w n).length = w
 | 0, _ => rfl
 | w + 1, n => by rw [fixL, List.length_append, fixL_len w]; rfl
def bitL (l : List Int) : Prop := ∀ x ∈ l, x = 48 ∨ x = 49
theorem bitL_append {a b : List Int} (ha : bitL a) (hb : bitL b) : bitL (a ++ b) := fun x hx => (List.mem_append.1 hx).elim (ha x) (hb x)
theorem bitL_rep (n : Nat) : bitL (List.replicate n 48) := fun x hx => .inl (List.eq_of_mem_replicate hx)
theorem bitL_byte {l : List Int} (h : bitL l) : byteL l := fun x hx => by rcases h x hx with e | e <;> omega
theorem bitL_nil : bitL [] := fun x hx => by simp at hx
theorem fixL_bit : ∀ (w : Nat) (n : Int), bitL (fixL w n)
 | 0, _ => bitL_nil
 | w + 1, n => bitL_append (fixL_bit w (n / 2)) (fun x hx => by rw [List.mem_singleton.1 hx]; omega)
theorem fix_loop : ∀ (k : Nat) (n : Int) (s : List Int), 0 ≤ n → n ≤ 9223372036854775807 → k + s.length ≤ 100000 → loop spec_l02Fix_l2 (n, (k : Int) - 1, List.replicate k 0 ++ s) = some (fixL k n ++ s) := by
 intro k
 induction k with
 | zero =>
  intro n s h0 h1 hl
  refine ldone ?_
  unfold spec_l02Fix_l2
  simp only
  rw [sel_no (by omega)]
  simp [fixL]
 | succ k ih =>
  intro n s h0 h1 hl
  have e1 : List.replicate (k + 1) (0 : Int) ++ s = List.replicate k 0 ++ 0 :: s := by rw [List.replicate_succ', List.append_assoc]; rfl
  have e2 := set_mid (List.replicate k (0 : Int)) 0 (48 + n % 2) s
  rw [List.length_replicate] at e2
  refine lgo (y := (n / 2, (k : Int) - 1, List.replicate k 0 ++ (48 + n % 2) :: s)) ?_ ?_
  ·
   unfold spec_l02Fix_l2
   have e3 : (((k + 1 : Nat) : Int) - 1).toNat = k := by omega
   simp only [e1, e3]
   rw [sel_yes (by omega), req_p (by decide), req_p (by simp; omega), req_p (by simp), req_p (by decide), tmod_pos h0, tdiv_pos h0, wk (e := 48 + n % 2) (by omega) (by omega), w8 (by omega) (by omega), e2, wk (by omega) (by omega), wk (by omega) (by omega)]
   rw [show ((k + 1 : Nat) : Int) - 1 - 1 = (k : Int) - 1 by omega]
  ·
   rw [ih (n / 2) ((48 + n % 2) :: s) (by omega) (by omega) (by simp; omega), fixL, List.append_assoc]; rfl
theorem spec_l02Fix_eq (n : Int) (w : Nat) (h0 : 0 ≤ n) (h1 : n ≤ 9223372036854775807) (hw : w ≤ 1000) : spec_l02Fix n (w : Int) = some (strOfNums (fixL w n)) := by
 unfold spec_l02Fix
 rw [req_p (by omega), wk (by omega) (by omega), Int.toNat_natCast]
 have := fix_loop w n [] h0 h1 (by simp; omega)
 rw [List.append_nil, List.append_nil] at this
 rw [this, bnd_s]
def figs (m : Nat) : Nat := if h : m = 0 then 0 else figs (m / 2) + 1
termination_by m
decreasing_by omega
def binL (m : Nat) : List Int := if h : m = 0 then [] else binL (m / 2) ++ [48 + ((m % 2 : Nat) : Int)]
termination_by m
decreasing_by omega
theorem binL_len (m : Nat) : (binL m).length = figs m := by
 induction m using Nat.strongRecOn with
 | _ m ih =>
  rw [binL, figs]
  by_cases h : m = 0
  ·
   rw [dif_pos h, dif_pos h]; rfl
  ·
   rw [dif_neg h, dif_neg h, List.length_append, ih (m / 2) (by omega)]; rfl
theorem figs_le {m j : Nat} (h : m < 2 ^ j) : figs m ≤ j := by
 induction j generalizing m with
 | zero => rw [figs, dif_pos (by simp at h; omega)]; omega
 | succ j ih =>
  rw [figs]
  split
  ·
   omega
  ·
   have := ih (m := m / 2) (by rw [Nat.pow_succ] at h; omega)
   omega
theorem figs_pos {m : Nat} (h : 0 < m) : 1 ≤ figs m := by rw [figs, dif_neg (by omega)]; omega
theorem binL_bit (m : Nat) : bitL (binL m) := by
 induction m using Nat.strongRecOn with
 | _ m ih =>
  rw [binL]
  by_cases h : m = 0
  ·
   rw [dif_pos h]; exact bitL_nil
  ·
   rw [dif_neg h]; exact bitL_append (ih (m / 2) (by omega)) (fun x hx => by rw [List.mem_singleton.1 hx]; omega)
def ueL (n : Nat) : List Int := List.replicate (figs (n + 1) - 1) 48 ++ binL (n + 1)
theorem ueL_bit (n : Nat) : bitL (ueL n) := bitL_append (bitL_rep _) (binL_bit _)
theorem ueL_len (n : Nat) (h : n ≤ 1000000) : (ueL n).length ≤ 39 ∧ 1 ≤ (ueL n).length := by
 unfold ueL
 rw [List.length_append, List.length_replicate, binL_len]
 have := figs_le (m := n + 1) (j := 20) (by omega)
 have := figs_pos (m := n + 1) (by omega)
 omega
theorem spec_l01Long_eq (n : Nat) (x : Int) (h : n ≤ 1000000000) : spec_l01Long (n : Int) x = some (strOfNums (List.replicate n x)) := by
 unfold spec_l01Long
 rw [req_p (by omega), Int.toNat_natCast]
 have key : ∀ (k a : Nat), k + a = n → loop (spec_l01Long_l2 (n : Int) x) ((a : Int), List.replicate a x ++ List.replicate k 0) = some (List.replicate n x) := by
  intro k
  induction k with
  | zero =>
   intro a ha
   refine ldone ?_
   unfold spec_l01Long_l2
   simp only
   rw [sel_no (by omega)]
   simp; omega
  | succ k ih =>
   intro a ha
   have e2 := set_mid (List.replicate a x) 0 x (List.replicate k 0)
   rw [List.length_replicate] at e2
   refine lgo (y := (((a + 1 : Nat) : Int), List.replicate (a + 1) x ++ List.replicate k 0)) ?_ (ih (a + 1) (by omega))
   unfold spec_l01Long_l2
   simp only [List.replicate_succ (n := k), Int.toNat_natCast]
   rw [sel_yes (by omega), req_p (by simp; omega), req_p (by simp), e2, wk (by omega) (by omega), List.replicate_succ' (n := a), List.append_assoc]
   rfl
 have := key n 0 rfl
 rw [List.replicate_zero, List.nil_append] at this
 exact bnd_e this
theorem spec_l03Ue_eq (n : Nat) (h : n ≤ 1000000) : spec_l03Ue (n : Int) = some (strOfNums (ueL n)) := by
 have main : ∀ (j m : Nat) (s : List Int), m < 2 ^ j → j ≤ 63 → s.length + j ≤ 1000 → loop spec_l03Ue_l2 ((m : Int), strOfNums s) = some (strOfNums (binL m ++ s)) := by
  intro j
  induction j with
  | zero =>
   intro m s hm _ _
   have : m = 0 := by simp at hm; omega
   subst this
   refine ldone ?_
   unfold spec_l03Ue_l2
   simp only
   rw [sel_no (by omega), binL, dif_pos rfl]; rfl
  | succ j ih =>
   intro m s hm hj hl
   by_cases h : m = 0
   ·
    subst h
    refine ldone ?_
    unfold spec_l03Ue_l2
    simp only
    rw [sel_no (by omega), binL, dif_pos rfl]; rfl
   ·
    have hlt : (m : Int) < 2 ^ (j + 1) := by exact_mod_cast hm
    have hle : (2 : Int) ^ (j + 1) ≤ 2 ^ 63 := by
     have := Nat.pow_le_pow_right (n := 2) (by omega) hj
     exact_mod_cast this
    have hbd : (m : Int) < 9223372036854775808 := Int.lt_of_lt_of_le hlt (by simpa using hle)
    refine lgo (y := (((m / 2 : Nat) : Int), strOfNums ((48 + ((m % 2 : Nat) : Int)) :: s))) ?_ ?_
    ·
     unfold spec_l03Ue_l2
     simp only
     rw [sel_yes (by omega), req_p (by decide), tmod_pos (by omega), tdiv_pos (by omega), wk (e := 48 + (m : Int) % 2) (by omega) (by omega), w8 (by omega) (by omega), req_p (by simp only [strOfNums_size, List.length_singleton]; omega), req_p (by decide), wk (by omega) (by omega), str_append]
     congr 3
    ·
     rw [ih (m / 2) _ (by rw [Nat.pow_succ] at hm; omega) (by omega) (by simp; omega)]
     conv => rhs; rw [binL, dif_neg h]
     rw [List.append_assoc]; rfl
 unfold spec_l03Ue
 have h1 := figs_le (m := n + 1) (j := 20) (by omega)
 have h2 := figs_pos (m := n + 1) (by omega)
 rw [wk (e := (n : Int) + 1) (by omega) (by omega), str_nil, show (n : Int) + 1 = ((n + 1 : Nat) : Int) by omega, main 63 (n + 1) [] (by omega) (by omega) (by simp), bnd_s, List.append_nil, strOfNums_size, binL_len, wk (by omega) (by omega), show (figs (n + 1) : Int) - 1 = ((figs (n + 1) - 1 : Nat) : Int) by omega, spec_l01Long_eq _ _ (by omega), bnd_s,
  req_p (by simp only [strOfNums_size, List.length_replicate]; omega), str_append]
 rfl
theorem bit_test (x : Int) (h : x = 48 ∨ x = 49) : ((x != 48) && (x != 49)) = false := by rcases h with rfl | rfl <;> rfl
theorem row_loop (l : List Int) (hl : bitL l) (hn : l.length ≤ 9223372036854775806) (f : Int → Option (Lp Int (Ou Unit Bool)))
  (h : ∀ i : Nat, i < l.length → f (i : Int) = sel (((l.getD i 0) != 48) && ((l.getD i 0) != 49)) (some (.done (.ret false))) (some (.go ((i + 1 : Nat) : Int)))) (h0 : f (l.length : Int) = some (.done (.out ()))) : loop f 0 = some (.out ()) :=
 self_loop l.length (fun i hi => by rw [h i hi, bit_test _ (by rw [getD_at l i hi]; exact hl _ (List.getElem_mem hi)), sel_f]) h0
theorem spec_l02Row_eq (l : List Int) (hl : bitL l) (hn : l.length ≤ 9223372036854775806) : spec_l02Row (strOfNums l) = some true := by
 unfold spec_l02Row
 rw [row_loop l hl hn (spec_l02Row_l2 (strOfNums l)) (fun i hi => by
  unfold spec_l02Row_l2
  rw [strOfNums_size, bt_str l (bitL_byte hl) i hi, sel_yes (by omega), req_p (by omega), req_p (by omega), sel_and, bnd_s, wk (by omega) (by omega)]; rfl) (by
  unfold spec_l02Row_l2; rw [strOfNums_size, sel_no (by omega)])]
 rfl
theorem spec_RowOk_eq (l : List Int) (hl : bitL l) (hn : l.length ≤ 400000) : spec_RowOk (strOfNums l) = some true := by
 unfold spec_RowOk
 rw [strOfNums_size, sel_yes (by omega), spec_l02Row_eq l hl (by omega), bnd_s, bnd_s]
def val8 (l : List Int) : Int := l.foldl (fun x b => 2 * x + b - 48) 0
def chunks : Nat → List Int → List Int
 | 0, _ => []
 | n + 1, l => val8 (l.take 8) :: chunks n (l.drop 8)
theorem chunks_len : ∀ (n : Nat) (l : List Int), (chunks n l).length = n
 | 0, _ => rfl
 | n + 1, l => by rw [chunks, List.length_cons, chunks_len n]
def pack (l : List Int) : List Int := chunks (l.length / 8 + 1) (l ++ 49 :: List.replicate (8 * (l.length / 8 + 1) - l.length - 1) 48)
theorem val_acc (l : List Int) : ∀ x : Int, l.foldl (fun x b => 2 * x + b - 48) x = x * 2 ^ l.length + val8 l := by
 induction l with
 | nil => intro x; simp [val8]
 | cons b l ih =>
  intro x
  unfold val8
  rw [List.foldl_cons, List.foldl_cons, ih, ih (2 * 0 + b - 48), List.length_cons, Int.pow_succ]
  have e1 : (2 * x + b - 48) * 2 ^ l.length = 2 * (x * 2 ^ l.length) + (b - 48) * 2 ^ l.length := by
   rw [show 2 * x + b - 48 = 2 * x + (b - 48) by omega, Int.add_mul, Int.mul_assoc]
  have e2 : x * (2 ^ l.length * 2) = 2 * (x * 2 ^ l.length) := by rw [← Int.mul_assoc, Int.mul_comm]
  rw [e1, e2, show (2 : Int) * 0 + b - 48 = b - 48 by omega]
  omega
theorem val_app (a b : List Int) : val8 (a ++ b) = val8 a * 2 ^ b.length + val8 b := by
 show (a ++ b).foldl _ 0 = _
 rw [List.foldl_append]
 exact val_acc b (val8 a)
theorem val_range {l : List Int} (h : bitL l) : 0 ≤ val8 l ∧ val8 l < 2 ^ l.length := by
 induction l with
 | nil => simp [val8]
 | cons b l ih =>
  have h1 := ih (fun x hx => h x (by simp [hx]))
  have h2 := h b (by simp)
  rw [show b :: l = [b] ++ l from rfl, val_app, List.length_append, Int.pow_add, show val8 [b] = b - 48 by simp [val8]]
  have : (2 : Int) ^ [b].length = 2 := rfl
  rw [this]
  rcases h2 with rfl | rfl <;> omega
theorem val8_loop (v : List Int) (i : Nat) (out : List Int) (c : List Int) (hc : (v.drop i).take 8 = c) (h8 : c.length = 8) (hb : bitL c) (hn : v.length ≤ 1000000) (hi : i + 8 ≤ v.length) : loop (spec_l02Bytes_l28 v ((i : Int), out)) (0, 0) = some (val8 c) := by
 have key : ∀ (r a : List Int), c = a ++ r → loop (spec_l02Bytes_l28 v ((i : Int), out)) (val8 a, (a.length : Int)) = some (val8 c) := by
  intro r
  induction r with
  | nil =>
   intro a ha
   rw [List.append_nil] at ha
   refine ldone ?_
   unfold spec_l02Bytes_l28
   simp only
   rw [sel_no (by rw [← ha]; omega), ha]
  | cons x r ih =>
   intro a ha
   have hlen : a.length < 8 := by rw [← h8, ha]; simp
   have hx : v.getD (i + a.length) 0 = x := by
    have h1 : c.getD a.length 0 = x := by rw [ha]; exact getD_mid a x _ r
    rw [← h1, ← hc]
    rw [List.getD_eq_getElem?_getD, List.getD_eq_getElem?_getD, List.getElem?_take_of_lt hlen, List.getElem?_drop]
   have hab : bitL a := fun y hy => hb y (by rw [ha]; simp [hy])
   have hr := val_range hab
   have hp : (2 : Int) ^ a.length ≤ 2 ^ 8 := by
    have := Nat.pow_le_pow_right (n := 2) (by omega) (show a.length ≤ 8 by omega)
    exact_mod_cast this
   have h256 : (2 : Int) ^ 8 = 256 := by decide
   have hxb : x = 48 ∨ x = 49 := hb x (by rw [ha]; simp)
   have hnext := ih (a ++ [x]) (by rw [ha]; simp)
   rw [List.length_append, List.length_singleton] at hnext
   refine lgo (y := (val8 (a ++ [x]), ((a.length + 1 : Nat) : Int))) ?_ hnext
   unfold spec_l02Bytes_l28
   simp only
   rw [sel_yes (by omega), wk (e := (i : Int) + a.length) (by omega) (by omega), req_p (by omega), req_p (by omega), show ((i : Int) + (a.length : Int)).toNat = i + a.length by omega, hx, wk (e := (a.length : Int) + 1) (by omega) (by omega), wk (e := x) (by omega) (by omega), wk (e := 2 * val8 a) (by omega) (by omega), wk (e := 2 * val8 a + x) (by omega) (by omega), wk (by omega) (by omega),
    val_app, show val8 [x] = x - 48 by simp [val8], show [x].length = 1 from rfl, Int.pow_one]
   congr 4
   omega
 have := key c [] rfl
 exact this
theorem chunk_loop (v : List Int) (hb : bitL v) (hn : v.length ≤ 1000000) : ∀ (m i : Nat) (out : List Int), i + 8 * m = v.length → out.length ≤ i → loop (spec_l02Bytes_l24 v) ((i : Int), out) = some (out ++ chunks m (v.drop i)) := by
 have hm' : maxLen = 9223372036854775807 := rfl
 intro m
 induction m with
 | zero =>
  intro i out hi _
  refine ldone ?_
  unfold spec_l02Bytes_l24
  simp only
  rw [sel_no (by omega)]; simp [chunks]
 | succ m ih =>
  intro i out hi ho
  have hlen : ((v.drop i).take 8).length = 8 := by rw [List.length_take, List.length_drop]; omega
  have hcb : bitL ((v.drop i).take 8) := fun x hx => hb x (List.mem_of_mem_drop (List.mem_of_mem_take hx))
  have hr := val_range hcb
  rw [hlen, show (2 : Int) ^ 8 = 256 by decide] at hr
  refine lgo (y := (((i + 8 : Nat) : Int), out ++ [val8 ((v.drop i).take 8)])) ?_ ?_
  ·
   unfold spec_l02Bytes_l24
   simp only
   rw [sel_yes (by omega), val8_loop v i out _ rfl hlen hcb hn (by omega), bnd_s, w8 (by omega) (by omega), req_p (by simp only [List.length_singleton]; omega), wk (by omega) (by omega)]
   rfl
  ·
   rw [ih (i + 8) _ (by omega) (by simp; omega), chunks, List.drop_drop, List.append_assoc]; rfl
theorem spec_l02Bytes_eq (l : List Int) (hl : bitL l) (hn : l.length ≤ 400000) : spec_l02Bytes (strOfNums l) = some (strOfNums (pack l)) := by
 have hm' : maxLen = 9223372036854775807 := rfl
 unfold spec_l02Bytes
 rw [strOfNums_size, nums_str l (bitL_byte hl), req_p (by omega), req_p (by simp only [List.length_singleton]; omega)]
 have key : ∀ (z : Nat) (s : List Int), s.length ≤ 500000 → z < 8 → (s.length + z) % 8 = 0 → loop spec_l02Bytes_l2 s = some (s ++ List.replicate z 48) := by
  intro z
  induction z with
  | zero =>
   intro s hs _ h8
   refine ldone ?_
   unfold spec_l02Bytes_l2
   rw [req_p (by decide), tmod_pos (by omega), sel_neg (by simp only [bne_eq_false_iff_eq]; omega)]; simp
  | succ z ih =>
   intro s hs hz h8
   refine lgo (y := s ++ [48]) ?_ ?_
   ·
    unfold spec_l02Bytes_l2
    rw [req_p (by decide), tmod_pos (by omega), sel_pos (by simp only [bne_iff_ne, ne_eq]; omega), req_p (by simp only [List.length_singleton]; omega)]
   ·
    rw [ih (s ++ [48]) (by simp; omega) (by omega) (by simp; omega), List.append_assoc, List.replicate_succ]; rfl
 have hz : (l ++ [49] ++ List.replicate (8 * (l.length / 8 + 1) - l.length - 1) 48 : List Int).length = 8 * (l.length / 8 + 1) := by simp; omega
 have hvb : bitL (l ++ [49] ++ List.replicate (8 * (l.length / 8 + 1) - l.length - 1) 48) := bitL_append (bitL_append hl (fun x hx => .inr (List.mem_singleton.1 hx))) (bitL_rep _)
 rw [key (8 * (l.length / 8 + 1) - l.length - 1) (l ++ [49]) (by simp; omega) (by omega) (by simp; omega), bnd_s]
 have := chunk_loop _ hvb (by omega) (l.length / 8 + 1) 0 [] (by rw [hz]; omega) (by simp)
 rw [List.nil_append, List.drop_zero] at this
 rw [show (0 : Int) = ((0 : Nat) : Int) from rfl, this, bnd_s]
 unfold pack
 rw [List.append_assoc, List.singleton_append]
theorem pack_len (l : List Int) : (pack l).length = l.length / 8 + 1 := chunks_len _ _
def isKind (k : Int) : Bool := k == 1 || (k == 5 || (k == 7 || k == 8))
theorem spec_l07Kind_eq (k : Int) : spec_l07Kind k = some (isKind k) := by
 unfold spec_l07Kind isKind
 simp only [sel_or, bnd_s]
theorem isKind_in {k : Int} (h : isKind k = true) : 1 ≤ k ∧ k ≤ 8 := by
 unfold isKind at h
 simp only [Bool.or_eq_true, beq_iff_eq] at h
 omega
theorem spec_UnitOf_eq (k : Int) (l : List Int) (hk : isKind k = true) (hl : bitL l) (hn : l.length ≤ 400000) : spec_UnitOf k (strOfNums l) = some (strOfNums (k :: pack l), true) := by
 have := isKind_in hk
 have hp := pack_len l
 unfold spec_UnitOf
 rw [spec_l07Kind_eq, bnd_s, hk, sel_t, spec_RowOk_eq l hl hn, bnd_s, bnd_s, Bool.not_true, sel_f, spec_l02Bytes_eq l hl hn, bnd_s, w8 (by omega) (by omega), req_p (by simp only [strOfNums_size, List.length_singleton]; omega), str_append]; rfl
def signL (b : Bool) : List Int := if b = true then [49] else [48]
theorem signL_bit (b : Bool) : bitL (signL b) := by unfold signL; split <;> (intro x hx; rw [List.mem_singleton.1 hx]; simp)
theorem signL_len (b : Bool) : (signL b).length = 1 := by unfold signL; split <;> rfl
theorem spec_l05Flag_eq (b : Bool) : spec_l05Flag b = some (strOfNums (signL b)) := by cases b <;> rfl
def parL (p : Par) : List Int := fixL 6 p.Qp ++ signL p.Large ++ signL p.Exact ++ signL p.Confined
theorem parL_bit (p : Par) : bitL (parL p) := bitL_append (bitL_append (bitL_append (fixL_bit _ _) (signL_bit _)) (signL_bit _)) (signL_bit _)
theorem parL_len (p : Par) : (parL p).length = 9 := by unfold parL; simp only [List.length_append, fixL_len, signL_len]
theorem parOk_qp {p : Par} (h : parOk p = true) : 0 ≤ p.Qp ∧ p.Qp ≤ 40 := by
 unfold parOk at h; rw [Bool.and_eq_true, decide_eq_true_eq] at h; exact h.1
theorem spec_l05Par_eq (p : Par) (h : parOk p = true) : spec_l05Par p = some (strOfNums (parL p)) := by
 have := parOk_qp h
 unfold spec_l05Par
 rw [show (6 : Int) = ((6 : Nat) : Int) from rfl, spec_l02Fix_eq _ 6 (by omega) (by omega) (by omega), bnd_s, spec_l05Flag_eq, bnd_s, req_p (by simp only [strOfNums_size, fixL_len, signL_len]; omega), spec_l05Flag_eq, bnd_s, str_append, req_p (by simp only [strOfNums_size, List.length_append, fixL_len, signL_len]; omega), spec_l05Flag_eq, bnd_s, str_append, req_p (by simp only [strOfNums_size, List.length_append, fixL_len, signL_len]; omega), str_append]
 rfl
def uesL : List Int → List Int
 | [] => []
 | x :: r => ueL x.toNat ++ uesL r
theorem uesL_bit : ∀ l : List Int, bitL (uesL l)
 | [] => bitL_nil
 | x :: r => bitL_append (ueL_bit _) (uesL_bit r)
theorem uesL_len : ∀ {l : List Int}, l.all okSide = true → (uesL l).length ≤ 39 * l.length
 | [], _ => by simp [uesL]
 | x :: r, h => by
  rw [List.all_cons, Bool.and_eq_true] at h
  have h1 := uesL_len h.2
  have h2 : 1 ≤ x ∧ x ≤ 8 := by simpa [okSide] using h.1
  have := ueL_len x.toNat (by omega)
  rw [uesL, List.length_append, List.length_cons]
  omega
def listL (l : List Int) : List Int := ueL l.length ++ uesL l
def seqL (s : Seq) : List Int := ueL s.Level.toNat ++ fixL 4 s.Bits ++ listL s.Cols ++ listL s.Rows
theorem listL_bit (l : List Int) : bitL (listL l) := bitL_append (ueL_bit _) (uesL_bit _)
theorem seqL_bit (s : Seq) : bitL (seqL s) := bitL_append (bitL_append (bitL_append (ueL_bit _) (fixL_bit _ _)) (listL_bit _)) (listL_bit _)
theorem listL_len {l : List Int} (h : okSides l = true) : (listL l).length ≤ 195 := by
 have h1 := okSides_len h
 unfold okSides at h
 rw [Bool.and_eq_true] at h
 have := uesL_len h.2
 have := ueL_len l.length (by omega)
 unfold listL; rw [List.length_append]; omega
theorem seqOk_level {s : Seq} (h : seqOk s = true) : 1 ≤ s.Level ∧ s.Level ≤ 3 := by
 unfold seqOk at h
 rw [Bool.and_eq_true, decide_eq_true_eq] at h
 have := h.1
 unfold levelSquares at this
 repeat' split at this
 all_goals omega
theorem seqL_len {s : Seq} (h : seqOk s = true) : (seqL s).length ≤ 433 := by
 obtain ⟨h1, h2, _⟩ := seqOk_sides h
 have h3 := seqOk_level h
 have := listL_len h1
 have := listL_len h2
 have := ueL_len s.Level.toNat (by omega)
 unfold seqL; simp only [List.length_append, fixL_len]; omega
theorem ue_list_loop (l : List Int) (ha : l.all okSide = true) (h4 : l.length ≤ 4) (f : (ByteArray × Int) → Option (Lp (ByteArray × Int) ByteArray))
  (h : ∀ (i : Nat) (s : List Int) (x : Int), i < l.length → s.length ≤ 1000 → l.getD i 0 = x → f (strOfNums s, (i : Int)) = some (.go (strOfNums (s ++ ueL x.toNat), ((i + 1 : Nat) : Int)))) (h0 : ∀ s, f (s, (l.length : Int)) = some (.done s)) (s : List Int) (hs : s.length ≤ 500) : loop f (strOfNums s, 0) = some (strOfNums (s ++ uesL l)) := by
 have key : ∀ (r a : List Int) (s : List Int), l = a ++ r → s.length + 39 * r.length ≤ 800 → loop f (strOfNums s, (a.length : Int)) = some (strOfNums (s ++ uesL r)) := by
  intro r
  induction r with
  | nil => intro a s ha _; rw [List.append_nil] at ha; rw [← ha, loop_done (h0 _), uesL, List.append_nil]
  | cons x r ih =>
   intro a s hl hsl
   have hlen : a.length < l.length := by rw [hl]; simp
   have hx : l.getD a.length 0 = x := by rw [hl]; exact getD_mid a x _ r
   have hxs : 1 ≤ x ∧ x ≤ 8 := by simpa [okSide] using List.all_eq_true.1 ha x (by rw [hl]; simp)
   have := ueL_len x.toNat (by omega)
   rw [List.length_cons] at hsl
   have hn := ih (a ++ [x]) (s ++ ueL x.toNat) (by rw [hl]; simp) (by rw [List.length_append]; omega)
   rw [List.length_append, List.length_singleton] at hn
   rw [loop_go (h a.length s x hlen (by omega) hx), hn, uesL, List.append_assoc]
 exact key l [] s rfl (by omega)
theorem spec_l05List_eq (l : List Int) (h : okSides l = true) : spec_l05List l = some (strOfNums (listL l)) := by
 have h1 := okSides_len h
 have ha : l.all okSide = true := by unfold okSides at h; rw [Bool.and_eq_true] at h; exact h.2
 have := ueL_len l.length (by omega)
 unfold spec_l05List
 rw [spec_l03Ue_eq _ (by omega), bnd_s, ue_list_loop l ha h1.2 (spec_l05List_l2 l) (by
  intro i s x hi hs hx
  have hxs : 1 ≤ x ∧ x ≤ 8 := by rw [getD_at l i hi] at hx; simpa [okSide, hx] using List.all_eq_true.1 ha _ (List.getElem_mem hi)
  have := ueL_len x.toNat (by omega)
  unfold spec_l05List_l2
  simp only [Int.toNat_natCast, hx]
  rw [sel_yes (by omega), req_p (by omega), show x = ((x.toNat : Nat) : Int) by omega, spec_l03Ue_eq _ (by omega), bnd_s, req_p (by simp only [strOfNums_size]; omega), wk (by omega) (by omega), str_append]
  rfl) (by intro s; unfold spec_l05List_l2; simp only; rw [sel_no (by omega)]) _ (by omega), bnd_s]
 rfl
theorem spec_l05Seq_eq (s : Seq) (h : seqOk s = true) : spec_l05Seq s = some (strOfNums (seqL s)) := by
 obtain ⟨h1, h2, h3⟩ := seqOk_sides h
 have h4 := seqOk_level h
 have := listL_len h1
 have := listL_len h2
 have := ueL_len s.Level.toNat (by omega)
 unfold spec_l05Seq
 rw [show s.Level = ((s.Level.toNat : Nat) : Int) by omega, spec_l03Ue_eq _ (by omega), bnd_s, show (4 : Int) = ((4 : Nat) : Int) from rfl, spec_l02Fix_eq _ 4 (by omega) (by omega) (by omega), bnd_s, req_p (by simp only [strOfNums_size, fixL_len]; omega), spec_l05List_eq _ h1, bnd_s, str_append, req_p (by simp only [strOfNums_size, List.length_append, fixL_len]; omega), spec_l05List_eq _ h2, bnd_s, str_append, req_p (by simp only [strOfNums_size, List.length_append, fixL_len]; omega), str_append]
 rfl
def sourceSets (s : Source) : List ByteArray := if sourceOk s = true then [strOfNums (7 :: pack (seqL s.Seq)), strOfNums (8 :: pack (parL s.Par))] else []
theorem sourceOk_parts {s : Source} (h : sourceOk s = true) : seqOk s.Seq = true ∧ parOk s.Par = true := by
 unfold sourceOk at h
 simp only [Bool.and_eq_true, decide_eq_true_eq] at h
 exact ⟨tiles_one h.1.1.1.1.1, h.1.1.1.1.2⟩
theorem spec_SourceSets_eq (s : Source) (hb : (Lit.int .i64 s.Seq.Bits).wf = true) : spec_SourceSets s = some (sourceSets s) := by
 unfold spec_SourceSets sourceSets
 rw [spec_SourceOk_eq s hb, bnd_s, sel_n]
 cases h : sourceOk s with
 | false => rfl
 | true =>
  obtain ⟨h1, h2⟩ := sourceOk_parts h
  have := seqL_len h1
  rw [sel_t, spec_l05Seq_eq _ h1, bnd_s, spec_UnitOf_eq 7 _ rfl (seqL_bit _) (by omega), bnd_s, spec_l05Par_eq _ h2, bnd_s, spec_UnitOf_eq 8 _ rfl (parL_bit _) (by rw [parL_len]; omega), bnd_s]
  rfl
def foldN (n : Int) : Nat := if n > 0 then (2 * n - 1).toNat else (-2 * n).toNat
theorem spec_FoldSe_eq (n : Int) (h : -500000 ≤ n ∧ n ≤ 500000) : spec_FoldSe n = some ((foldN n : Int), true) := by
 unfold spec_FoldSe foldN
 rw [spec_l01In_eq, bnd_s, sel_n, sel_yes h, sel_d, wk (e := 2 * n) (by omega) (by omega), wk (by omega) (by omega), wk (by omega) (by omega)]
 split
 ·
  rw [Int.toNat_of_nonneg (by omega)]
 ·
  rw [Int.toNat_of_nonneg (by omega)]
theorem foldN_le (n : Int) (h : -500000 ≤ n ∧ n ≤ 500000) : foldN n ≤ 1000000 := by unfold foldN; split <;> omega
def seL (n : Int) : List Int := ueL (foldN n)
theorem seL_len (n : Int) (h : -500000 ≤ n ∧ n ≤ 500000) : (seL n).length ≤ 39 := (ueL_len _ (foldN_le n h)).1
theorem spec_l03Se_eq (n : Int) (h : -500000 ≤ n ∧ n ≤ 500000) : spec_l03Se n = some (strOfNums (seL n)) := by
 unfold spec_l03Se
 rw [spec_FoldSe_eq n h, bnd_s, spec_l03Ue_eq _ (foldN_le n h), bnd_s]; rfl
def lvIn (x : Int) : Bool := decide (-5000 ≤ x ∧ x ≤ 5000)
theorem lvIn_iff {x : Int} : lvIn x = true ↔ -5000 ≤ x ∧ x ≤ 5000 := by simp [lvIn]
def nz : List Int → Nat
 | [] => 0
 | x :: r => if x = 0 then nz r else nz r + 1
theorem nz_le : ∀ l : List Int, nz l ≤ l.length
 | [] => by simp [nz]
 | x :: r => by rw [nz, List.length_cons]; have := nz_le r; split <;> omega
def runsB : Nat → List Int → List Int
 | _, [] => []
 | g, x :: r => if x = 0 then runsB (g + 1) r else ueL g ++ seL x ++ runsB 0 r
def runsL (l : List Int) : List Int := ueL (nz l) ++ runsB 0 l
theorem runsB_bit : ∀ (l : List Int) (g : Nat), bitL (runsB g l)
 | [], _ => bitL_nil
 | x :: r, g => by
  rw [runsB]
  split
  ·
   exact runsB_bit r _
  ·
   exact bitL_append (bitL_append (ueL_bit _) (ueL_bit _)) (runsB_bit r _)
theorem runsB_len : ∀ (l : List Int) (g : Nat), l.all lvIn = true → g + l.length ≤ 1000 → (runsB g l).length ≤ 78 * l.length
 | [], _, _, _ => by simp [runsB]
 | x :: r, g, h, hg => by
  rw [List.all_cons, Bool.and_eq_true, lvIn_iff] at h
  rw [List.length_cons] at hg ⊢
  rw [runsB]
  split
  ·
   have := runsB_len r (g + 1) h.2 (by omega); omega
  ·
   have := runsB_len r 0 h.2 (by omega)
   have a := ueL_len g (by omega)
   have b := seL_len x (by omega)
   simp only [List.length_append]; omega
theorem runsL_bit (l : List Int) : bitL (runsL l) := bitL_append (ueL_bit _) (runsB_bit _ _)
theorem runsL_len (l : List Int) (h : l.all lvIn = true) (hl : l.length ≤ 64) : (runsL l).length ≤ 39 + 78 * l.length := by
 have := runsB_len l 0 h (by omega)
 have := nz_le l
 have := ueL_len (nz l) (by omega)
 unfold runsL; rw [List.length_append]; omega
theorem spec_l11Runs_eq (l : List Int) (h : l.all lvIn = true) (hl : l.length ≤ 64) : spec_l11Runs l = some (strOfNums (runsL l)) := by
 unfold spec_l11Runs
 have key : ∀ (r a : List Int) (n g : Nat) (s : List Int), l = a ++ r → n ≤ a.length → g ≤ a.length → s.length ≤ 78 * a.length → loop (spec_l11Runs_l2 l) ((n : Int), (g : Int), strOfNums s, (a.length : Int)) = some (((n + nz r : Nat) : Int), strOfNums (s ++ runsB g r)) := by
  intro r
  induction r with
  | nil =>
   intro a n g s ha _ _ _
   rw [List.append_nil] at ha
   refine ldone ?_
   unfold spec_l11Runs_l2
   simp only
   rw [sel_no (by rw [ha]; omega), nz, runsB, List.append_nil]; rfl
  | cons x r ih =>
   intro a n g s ha hn hg hs
   have hlen : a.length < l.length := by rw [ha]; simp
   have hx : l.getD a.length 0 = x := by rw [ha]; exact getD_mid a x _ r
   have hxi : -5000 ≤ x ∧ x ≤ 5000 := lvIn_iff.1 (List.all_eq_true.1 h x (by rw [ha]; simp))
   by_cases e : x = 0
   ·
    have hnext := ih (a ++ [x]) n (g + 1) s (by rw [ha]; simp) (by simp; omega) (by simp; omega) (by simp; omega)
    rw [List.length_append, List.length_singleton] at hnext
    rw [nz, runsB, if_pos e, if_pos e, ← hnext]
    refine loop_go ?_
    unfold spec_l11Runs_l2
    simp only [Int.toNat_natCast, hx]
    rw [sel_yes (by omega), req_p (by omega), sel_pos (by simpa using e), bnd_s, wk (by omega) (by omega), wk (by omega) (by omega)]
    rfl
   ·
    have u1 := ueL_len g (by omega)
    have u2 := seL_len x (by omega)
    have hnext := ih (a ++ [x]) (n + 1) 0 (s ++ ueL g ++ seL x) (by rw [ha]; simp) (by simp; omega) (by omega) (by simp only [List.length_append, List.length_singleton]; omega)
    rw [List.length_append, List.length_singleton] at hnext
    rw [nz, runsB, if_neg e, if_neg e, show n + (nz r + 1) = n + 1 + nz r by omega, ← List.append_assoc, ← List.append_assoc, ← hnext]
    refine loop_go ?_
    unfold spec_l11Runs_l2
    simp only [Int.toNat_natCast, hx]
    rw [sel_yes (by omega), req_p (by omega), sel_neg (by simpa using e), spec_l03Ue_eq g (by omega), bnd_s, req_p (by simp only [strOfNums_size]; omega), req_p (by omega), spec_l03Se_eq x (by omega), bnd_s, str_append, req_p (by simp only [strOfNums_size, List.length_append]; omega), str_append, bnd_s, wk (by omega) (by omega), wk (by omega) (by omega)]
    rfl
 have := key l [] 0 0 [] rfl (by omega) (by omega) (by simp)
 refine (bnd_e this).trans ?_
 have hz := nz_le l
 have u := ueL_len (nz l) (by omega)
 have b := runsB_len l 0 h (by omega)
 simp only [Nat.zero_add, List.nil_append]
 rw [spec_l03Ue_eq _ (by omega), bnd_s, req_p (by simp only [strOfNums_size]; omega), str_append]
 rfl
def lv64 (l : List Int) : Bool := decide (l.length = 64) && l.all lvIn
theorem all_loop (p : Int → Bool) (l : List Int) (f : Int → Option (Lp Int (Ou Unit Bool))) (h : ∀ i : Nat, i < l.length → f (i : Int) = sel (!(p (l.getD i 0))) (some (.done (.ret false))) (some (.go ((i + 1 : Nat) : Int)))) (h0 : f (l.length : Int) = some (.done (.out ()))) :
  loop f 0 = some (if l.all p = true then .out () else .ret false) := by
 have key : ∀ (r a : List Int), l = a ++ r → loop f (a.length : Int) = some (if r.all p = true then .out () else .ret false) := by
  intro r
  induction r with
  | nil => intro a ha; rw [List.append_nil] at ha; rw [← ha, loop_done h0]; rfl
  | cons x r ih =>
   intro a ha
   have hlen : a.length < l.length := by rw [ha]; simp
   have hx : l.getD a.length 0 = x := by rw [ha]; exact getD_mid a x _ r
   have hs := h a.length hlen
   rw [hx] at hs
   cases e : p x with
   | true =>
    rw [e] at hs
    have := ih (a ++ [x]) (by rw [ha]; simp)
    rw [List.length_append, List.length_singleton] at this
    rw [loop_go hs, this, List.all_cons, e, Bool.true_and]
   | false => rw [e] at hs; rw [loop_done hs, List.all_cons, e, Bool.false_and]; rfl
 exact key l [] rfl
theorem spec_l09All_lv (l : List Int) : spec_l09All l 64 5000 = some (lv64 l) := by
 unfold spec_l09All lv64
 by_cases h : l.length = 64
 ·
  rw [sel_neg (by simp only [bne_eq_false_iff_eq]; omega), all_loop lvIn l (spec_l09All_l2 l 64 5000) (by
   intro i hi
   unfold spec_l09All_l2
   rw [sel_yes (by omega), req_p (by omega), wk (e := 0 - 5000) (by omega) (by omega), spec_l01In_eq, bnd_s, wk (by omega) (by omega), Int.toNat_natCast]
   rfl) (by unfold spec_l09All_l2; rw [sel_no (by omega)]), bnd_s, decide_eq_true h, Bool.true_and]
  cases l.all lvIn <;> rfl
 ·
  rw [sel_pos (by simp only [bne_iff_ne, ne_eq]; omega), decide_eq_false h, Bool.false_and]
theorem lv64_parts {l : List Int} (h : lv64 l = true) : l.length = 64 ∧ l.all lvIn = true := by
 unfold lv64 at h; rw [Bool.and_eq_true, decide_eq_true_eq] at h; exact h
def levL (l : List Int) (c : Cond) : List Int := if (c.Large || c.Exact) = true then runsL l else runsL (l.take 16) ++ runsL ((l.drop 16).take 16) ++ runsL ((l.drop 32).take 16) ++ runsL (l.drop 48)
theorem all_take {l : List Int} (h : l.all lvIn = true) (n : Nat) : (l.take n).all lvIn = true := List.all_eq_true.2 fun x hx => List.all_eq_true.1 h x (List.mem_of_mem_take hx)
theorem all_drop {l : List Int} (h : l.all lvIn = true) (n : Nat) : (l.drop n).all lvIn = true := List.all_eq_true.2 fun x hx => List.all_eq_true.1 h x (List.mem_of_mem_drop hx)
theorem levL_bit (l : List Int) (c : Cond) : bitL (levL l c) := by
 unfold levL
 split
 ·
  exact runsL_bit l
 ·
  exact bitL_append (bitL_append (bitL_append (runsL_bit _) (runsL_bit _)) (runsL_bit _)) (runsL_bit _)
theorem levL_len {l : List Int} {c : Cond} (h : lv64 l = true) : (levL l c).length ≤ 5148 := by
 obtain ⟨h1, h2⟩ := lv64_parts h
 unfold levL
 split
 ·
  have := runsL_len l h2 (by omega); omega
 ·
  have a := runsL_len (l.take 16) (all_take h2 _) (by rw [List.length_take]; omega)
  have b := runsL_len ((l.drop 16).take 16) (all_take (all_drop h2 _) _) (by rw [List.length_take, List.length_drop]; omega)
  have c := runsL_len ((l.drop 32).take 16) (all_take (all_drop h2 _) _) (by rw [List.length_take, List.length_drop]; omega)
  have d := runsL_len (l.drop 48) (all_drop h2 _) (by rw [List.length_drop]; omega)
  rw [List.length_take] at a
  rw [List.length_take, List.length_drop] at b c
  rw [List.length_drop] at d
  simp only [List.length_append]; omega
theorem spec_l14Row_eq (l : List Int) (c : Cond) (h : lv64 l = true) : spec_l14Row l c = some (strOfNums (levL l c)) := by
 obtain ⟨h1, h2⟩ := lv64_parts h
 unfold spec_l14Row levL
 rw [sel_or, bnd_s]
 by_cases e : (c.Large || c.Exact) = true
 ·
  rw [sel_pos e, if_pos e, spec_l11Runs_eq l h2 (by omega), bnd_s]
 ·
  rw [sel_neg (by simpa using e), if_neg e]
  have a := runsL_len (l.take 16) (all_take h2 _) (by rw [List.length_take]; omega)
  have b := runsL_len ((l.drop 16).take 16) (all_take (all_drop h2 _) _) (by rw [List.length_take, List.length_drop]; omega)
  have c := runsL_len ((l.drop 32).take 16) (all_take (all_drop h2 _) _) (by rw [List.length_take, List.length_drop]; omega)
  have d := runsL_len (l.drop 48) (all_drop h2 _) (by rw [List.length_drop]; omega)
  have s1 := spec_l11Runs_eq (l.take 16) (all_take h2 _) (by rw [List.length_take]; omega)
  have s2 := spec_l11Runs_eq ((l.drop 16).take 16) (all_take (all_drop h2 _) _) (by rw [List.length_take, List.length_drop]; omega)
  have s3 := spec_l11Runs_eq ((l.drop 32).take 16) (all_take (all_drop h2 _) _) (by rw [List.length_take, List.length_drop]; omega)
  have s4 := spec_l11Runs_eq (l.drop 48) (all_drop h2 _) (by rw [List.length_drop]; omega)
  rw [List.length_take] at a
  rw [List.length_take, List.length_drop] at b c
  rw [List.length_drop] at d
  rw [show ((16 : Int).toNat - (0 : Int).toNat) = 16 from rfl, show (0 : Int).toNat = 0 from rfl, List.drop_zero, show ((32 : Int).toNat - (16 : Int).toNat) = 16 from rfl, show (16 : Int).toNat = 16 from rfl, show ((48 : Int).toNat - (32 : Int).toNat) = 16 from rfl, show (32 : Int).toNat = 32 from rfl, show (48 : Int).toNat = 48 from rfl, Int.toNat_natCast, cut_all]
  rw [req_p (by omega), s1, bnd_s, req_p (by omega), s2, bnd_s, req_p (by simp only [strOfNums_size]; omega), req_p (by omega), s3, bnd_s, str_append, req_p (by simp only [strOfNums_size, List.length_append]; omega), req_p (by omega), s4, bnd_s, str_append, req_p (by simp only [strOfNums_size, List.length_append]; omega), str_append]
def condOk (c : Cond) : Bool := decide (0 ≤ c.Qp ∧ c.Qp ≤ 40) && !(c.Large && c.Exact)
theorem spec_CondOk_eq (c : Cond) : spec_CondOk c = some (condOk c) := by
 unfold spec_CondOk condOk
 rw [spec_l01In_eq, bnd_s, sel_nor, sel_and, bnd_s]
 cases c.Large <;> cases c.Exact <;> rfl
def sqOk (s : Square) : Bool :=
 if s.Kind = 0 then decide (s.Mode = 0 ∧ s.Dx = 0 ∧ s.Dy = 0 ∧ s.Levels.length = 0)
 else if s.Kind = 1 then decide (s.Mode = 0) && (decide (-16 ≤ s.Dx ∧ s.Dx ≤ 16) && (decide (-16 ≤ s.Dy ∧ s.Dy ≤ 16) && lv64 s.Levels))
 else if s.Kind = 2 then decide (0 ≤ s.Mode ∧ s.Mode ≤ 3) && (decide (s.Dx = 0) && (decide (s.Dy = 0) && lv64 s.Levels))
 else false
theorem beq_dec (a b : Int) : (a == b) = decide (a = b) := by rw [Bool.eq_iff_iff]; simp
theorem spec_SquareOk_eq (s : Square) : spec_SquareOk s = some (sqOk s) := by
 unfold spec_SquareOk sqOk
 simp only [spec_l01In_eq, spec_l09All_lv, bnd_s, sel_and, beq_dec]
 simp only [sel_d]
 by_cases h0 : s.Kind = 0
 ·
  rw [if_pos h0, if_pos h0]; congr 1; rw [Bool.eq_iff_iff]; simp
 ·
  rw [if_neg h0, if_neg h0]
  by_cases h1 : s.Kind = 1
  ·
   rw [if_pos h1, if_pos h1]
  ·
   rw [if_neg h1, if_neg h1]
   by_cases h2 : s.Kind = 2
   ·
    rw [decide_eq_true h2, Bool.true_and, if_pos h2]
   ·
    rw [decide_eq_false h2, Bool.false_and, if_neg h2]
def sqL (s : Square) (c : Cond) : List Int :=
 (if c.Key = true then [] else ueL s.Kind.toNat) ++
 (if s.Kind = 1 then seL s.Dx ++ seL s.Dy ++ levL s.Levels c else if s.Kind = 2 then ueL s.Mode.toNat ++ levL s.Levels c else [])
theorem sqOk_kind {s : Square} (h : sqOk s = true) : 0 ≤ s.Kind ∧ s.Kind ≤ 2 := by
 unfold sqOk at h
 repeat' split at h
 all_goals first | omega | simp at h
theorem sqOk_one {s : Square} (h : sqOk s = true) (h1 : s.Kind = 1) : (-16 ≤ s.Dx ∧ s.Dx ≤ 16) ∧ (-16 ≤ s.Dy ∧ s.Dy ≤ 16) ∧ lv64 s.Levels = true := by
 unfold sqOk at h
 rw [if_neg (by omega), if_pos h1] at h
 simp only [Bool.and_eq_true, decide_eq_true_eq] at h
 exact ⟨h.2.1, h.2.2.1, h.2.2.2⟩
theorem sqOk_two {s : Square} (h : sqOk s = true) (h1 : s.Kind = 2) : (0 ≤ s.Mode ∧ s.Mode ≤ 3) ∧ lv64 s.Levels = true := by
 unfold sqOk at h
 rw [if_neg (by omega), if_neg (by omega), if_pos h1] at h
 simp only [Bool.and_eq_true, decide_eq_true_eq] at h
 exact ⟨h.1, h.2.2.2⟩
theorem sqL_bit (s : Square) (c : Cond) : bitL (sqL s c) := by
 unfold sqL
 refine bitL_append ?_ ?_
 ·
  split
  ·
   exact bitL_nil
  ·
   exact ueL_bit _
 ·
  split
  ·
   exact bitL_append (bitL_append (ueL_bit _) (ueL_bit _)) (levL_bit _ _)
  ·
   split
   ·
    exact bitL_append (ueL_bit _) (levL_bit _ _)
   ·
    exact bitL_nil
theorem sqL_len {s : Square} {c : Cond} (h : sqOk s = true) : (sqL s c).length ≤ 5265 := by
 have hk := sqOk_kind h
 have u := ueL_len s.Kind.toNat (by omega)
 have e1 : (if c.Key = true then [] else ueL s.Kind.toNat).length ≤ 39 := by split; simp; exact u.1
 unfold sqL
 rw [List.length_append]
 by_cases h1 : s.Kind = 1
 ·
  obtain ⟨a, b, d⟩ := sqOk_one h h1
  have x := seL_len s.Dx (by omega)
  have y := seL_len s.Dy (by omega)
  have z := levL_len (c := c) d
  rw [if_pos h1]; simp only [List.length_append]; omega
 ·
  by_cases h2 : s.Kind = 2
  ·
   obtain ⟨a, d⟩ := sqOk_two h h2
   have x := ueL_len s.Mode.toNat (by omega)
   have z := levL_len (c := c) d
   rw [if_neg h1, if_pos h2]; simp only [List.length_append]; omega
  ·
   rw [if_neg h1, if_neg h2]; simp only [List.length_nil]; omega
theorem spec_l15Row_eq (s : Square) (c : Cond) (h : sqOk s = true) : spec_l15Row s c = some (strOfNums (sqL s c)) := by
 have hk := sqOk_kind h
 have u := ueL_len s.Kind.toNat (by omega)
 unfold spec_l15Row
 have e1 : (sel (!c.Key) (bnd (spec_l03Ue s.Kind) fun q2 => some q2) (some ⟨#[]⟩)) = some (strOfNums (if c.Key = true then [] else ueL s.Kind.toNat)) := by
  rw [show s.Kind = ((s.Kind.toNat : Nat) : Int) by omega, spec_l03Ue_eq _ (by omega), bnd_s, Int.toNat_natCast]
  cases c.Key <;> rfl
 rw [e1, bnd_s]
 have e2 : (if c.Key = true then [] else ueL s.Kind.toNat).length ≤ 39 := by split; simp; exact u.1
 unfold sqL
 generalize (if c.Key = true then [] else ueL s.Kind.toNat) = k at e2 ⊢
 by_cases h1 : s.Kind = 1
 ·
  obtain ⟨a, b, d⟩ := sqOk_one h h1
  have x := seL_len s.Dx (by omega)
  have y := seL_len s.Dy (by omega)
  have z := levL_len (c := c) d
  rw [if_pos h1, sel_pos (by simpa using h1), spec_l03Se_eq _ (by omega), bnd_s, req_p (by simp only [strOfNums_size]; omega), spec_l03Se_eq _ (by omega), bnd_s, str_append, req_p (by simp only [strOfNums_size, List.length_append]; omega), spec_l14Row_eq _ c d, bnd_s, str_append, req_p (by simp only [strOfNums_size, List.length_append]; omega), str_append]
  simp only [List.append_assoc]
 ·
  rw [if_neg h1, sel_neg (by simpa using h1)]
  by_cases h2 : s.Kind = 2
  ·
   obtain ⟨a, d⟩ := sqOk_two h h2
   have x := ueL_len s.Mode.toNat (by omega)
   have z := levL_len (c := c) d
   rw [if_pos h2, sel_pos (by simpa using h2), show s.Mode = ((s.Mode.toNat : Nat) : Int) by omega, spec_l03Ue_eq _ (by omega), bnd_s, req_p (by simp only [strOfNums_size]; omega), spec_l14Row_eq _ c d, bnd_s, str_append, req_p (by simp only [strOfNums_size, List.length_append]; omega), str_append, Int.toNat_natCast]
   simp only [List.append_assoc]
  ·
   rw [if_neg h2, sel_neg (by simpa using h2), List.append_nil]
def tilesL : List Square → Cond → List Int
 | [], _ => []
 | s :: r, c => sqL s c ++ tilesL r c
theorem tilesL_bit : ∀ (l : List Square) (c : Cond), bitL (tilesL l c)
 | [], _ => bitL_nil
 | s :: r, c => bitL_append (sqL_bit s c) (tilesL_bit r c)
theorem bt_range (b : ByteArray) (i : Int) : 0 ≤ btOf b i ∧ btOf b i ≤ 255 := by
 unfold btOf
 split
 ·
  rename_i h
  have := (b[i.toNat]'h).toNat_lt
  omega
 ·
  omega
theorem picOk_parts {p : Pic} (h : picOk p = true) : (1 ≤ p.Wide ∧ p.Wide ≤ 256) ∧ (1 ≤ p.High ∧ p.High ≤ 256) ∧ (p.Dots.size : Int) = p.Wide * p.High := by
 unfold picOk at h
 simp only [Bool.and_eq_true, decide_eq_true_eq, beq_iff_eq] at h
 exact ⟨h.1, h.2.1, h.2.2⟩
theorem picOk_of {p : Pic} (h1 : 1 ≤ p.Wide ∧ p.Wide ≤ 256) (h2 : 1 ≤ p.High ∧ p.High ≤ 256) (h3 : (p.Dots.size : Int) = p.Wide * p.High) : picOk p = true := by
 unfold picOk
 simp only [Bool.and_eq_true, decide_eq_true_eq, beq_iff_eq]
 exact ⟨h1, h2, h3⟩
def dotAt (p : Pic) (x y : Int) : Int := btOf p.Dots (brought y 0 (p.High - 1) * p.Wide + brought x 0 (p.Wide - 1))
theorem dotAt_range (p : Pic) (x y : Int) : 0 ≤ dotAt p x y ∧ dotAt p x y ≤ 255 := bt_range _ _
theorem dot_place {p : Pic} (ok : picOk p = true) (x y : Int) : 0 ≤ brought y 0 (p.High - 1) * p.Wide + brought x 0 (p.Wide - 1) ∧ brought y 0 (p.High - 1) * p.Wide + brought x 0 (p.Wide - 1) < p.Dots.size ∧ 0 ≤ brought y 0 (p.High - 1) * p.Wide ∧ brought y 0 (p.High - 1) * p.Wide ≤ 65536 := by
 obtain ⟨h1, h2, h3⟩ := picOk_parts ok
 have b1 := brought_in (n := y) (a := 0) (b := p.High - 1) (by omega)
 have b2 := brought_in (n := x) (a := 0) (b := p.Wide - 1) (by omega)
 have m1 := Int.mul_nonneg b1.1 (show 0 ≤ p.Wide by omega)
 have m2 := Int.mul_le_mul_of_nonneg_right b1.2 (show 0 ≤ p.Wide by omega)
 have m3 : (p.High - 1) * p.Wide = p.Wide * p.High - p.Wide := by rw [Int.sub_mul, Int.one_mul, Int.mul_comm]
 have m4 := (area_small h1 h2).2
 omega
theorem spec_DotAt_eq {p : Pic} (ok : picOk p = true) (x y : Int) : spec_DotAt p x y = some (dotAt p x y) := by
 obtain ⟨h1, h2, h3⟩ := picOk_parts ok
 unfold spec_DotAt dotAt
 rw [spec_PicOk_eq, bnd_s, ok, Bool.not_true, sel_f, spec_Brought_eq, bnd_s, spec_Brought_eq, bnd_s, wk (e := p.High - 1) (by omega) (by omega), wk (e := p.Wide - 1) (by omega) (by omega)]
 obtain ⟨p1, p2, p3, p4⟩ := dot_place ok x y
 have b2 := brought_in (n := x) (a := 0) (b := p.Wide - 1) (by omega)
 have br := bt_range p.Dots (brought y 0 (p.High - 1) * p.Wide + brought x 0 (p.Wide - 1))
 rw [wk (e := brought y 0 (p.High - 1) * p.Wide) (by omega) (by omega), wk (e := brought y 0 (p.High - 1) * p.Wide + brought x 0 (p.Wide - 1)) (by omega) (by omega), req_p ⟨p1, p2⟩, wk (by omega) (by omega)]
def blkAt (p : Pic) (x y : Int) (i : Nat) : Int := dotAt p (x + ((i % 8 : Nat) : Int)) (y + ((i / 8 : Nat) : Int))
def blkL (p : Pic) (x y : Int) (n : Nat) : List Int := (List.range n).map (blkAt p x y)
theorem blkL_succ (p : Pic) (x y : Int) (n : Nat) : blkL p x y (n + 1) = blkL p x y n ++ [blkAt p x y n] := by simp [blkL, List.range_succ]
theorem blkL_length (p : Pic) (x y : Int) (n : Nat) : (blkL p x y n).length = n := by simp [blkL]
def dotIn (x : Int) : Bool := decide (0 ≤ x ∧ x ≤ 255)
def dots64 (l : List Int) : Bool := decide (l.length = 64) && l.all dotIn
theorem dots64_at {l : List Int} (h : dots64 l = true) : l.length = 64 ∧ ∀ i : Nat, i < 64 → 0 ≤ l.getD i 0 ∧ l.getD i 0 ≤ 255 := by
 simp only [dots64, Bool.and_eq_true, decide_eq_true_eq] at h
 refine ⟨h.1, fun i hi => ?_⟩
 have := List.all_eq_true.1 h.2 (l.getD i 0) (by rw [getD_at l i (by omega)]; exact List.getElem_mem _)
 simpa [dotIn] using this
theorem blkL_dots (p : Pic) (x y : Int) : dots64 (blkL p x y 64) = true := by
 simp only [dots64, blkL_length, decide_true, Bool.true_and, List.all_eq_true]
 intro z hz
 obtain ⟨i, _, rfl⟩ := List.mem_map.1 hz
 simp only [dotIn, decide_eq_true_eq]
 exact dotAt_range _ _ _
theorem spec_BlockOf_eq {p : Pic} (ok : picOk p = true) (x y : Int) (hx : -1000 ≤ x ∧ x ≤ 1000) (hy : -1000 ≤ y ∧ y ≤ 1000) : spec_BlockOf p x y = some (blkL p x y 64) := by
 have hm : maxLen = 9223372036854775807 := rfl
 unfold spec_BlockOf
 rw [spec_PicOk_eq, bnd_s, ok, sel_t, spec_l01In_eq, bnd_s, sel_yes (by omega), spec_l01In_eq, bnd_s, bnd_s, decide_eq_true (by omega), Bool.not_true, sel_f]
 have key : ∀ i : Nat, i ≤ 64 → loop (spec_BlockOf_l2 p x y) ((i : Int), blkL p x y i) = some (blkL p x y 64) := by
  refine down_to _ ?_ ?_
  ·
   exact ldone (by unfold spec_BlockOf_l2; rw [sel_no (by simp)])
  ·
   intro i hi ih
   refine lgo (y := (((i + 1 : Nat) : Int), blkL p x y (i + 1))) ?_ ih
   unfold spec_BlockOf_l2
   simp only
   rw [sel_yes (by omega), req_p (by omega), req_p (by omega), tmod_pos (by omega), tdiv_pos (by omega), wk (e := (i : Int) / 8) (by omega) (by omega), wk (e := x + (i : Int) % 8) (by omega) (by omega), wk (e := y + (i : Int) / 8) (by omega) (by omega), spec_DotAt_eq ok, bnd_s, req_p (by rw [blkL_length]; simp only [List.length_singleton]; omega), wk (e := (i : Int) + 1) (by omega) (by omega)]
   have e2 : dotAt p (x + (i : Int) % 8) (y + (i : Int) / 8) = blkAt p x y i := by unfold blkAt; congr 1
   rw [e2, ← blkL_succ]
   rfl
 have := key 0 (by omega)
 exact (bnd_e this).trans rfl
def absI (x : Int) : Int := if x < 0 then -x else x
def gapTo (a b : List Int) : Nat → Int
 | 0 => 0
 | n + 1 => gapTo a b n + absI (a.getD n 0 - b.getD n 0)
theorem gapTo_bounds {a b : List Int} (ha : dots64 a = true) (hb : dots64 b = true) : ∀ n : Nat, n ≤ 64 → 0 ≤ gapTo a b n ∧ gapTo a b n ≤ 255 * n
 | 0, _ => by simp [gapTo]
 | n + 1, h => by
  have ih := gapTo_bounds ha hb n (by omega)
  have p := (dots64_at ha).2 n (by omega)
  have q := (dots64_at hb).2 n (by omega)
  simp only [gapTo, absI]
  split <;> omega
def seSz (d : Int) : Int := ((seL d).length : Int)
theorem spec_l12Dots_ev (c : L01Cur) (n : Int) (hc : curOk c) (h0 : 0 ≤ n) (h1 : n ≤ 100000) : ∃ s c', spec_l12Dots c n = some (s, c') ∧ (s.size : Int) = n ∧ curOk c' := by
 have hm : maxLen = 9223372036854775807 := rfl
 unfold spec_l12Dots
 obtain ⟨z, c0, ez, z0, z1, hz⟩ := spec_l01Byte_ev c hc
 rw [ez, bnd_s]
 simp only
 obtain ⟨o, h, h2, h3⟩ := loop_inv (f := spec_l12Dots_l2 n) (fun v => (0 ≤ v.1 ∧ v.1 ≤ 255) ∧ 0 ≤ v.2.1 ∧ v.2.1 ≤ n ∧ curOk ⟨v.2.2.1, v.2.2.2.1, v.2.2.2.2.1⟩ ∧ (v.2.2.2.2.2.length : Int) = v.2.1) (fun v => (n - v.2.1).toNat) (fun _ o => (o.1.length : Int) = n ∧ curOk ⟨o.2.1, o.2.2.1, o.2.2.2⟩) (by
  intro ⟨w, i, b, j, h, l⟩ ⟨hw, h1, h2, h3, h4⟩
  unfold spec_l12Dots_l2
  simp only at hw h1 h2 h3 h4 ⊢
  by_cases hi : i < n
  ·
   rw [sel_yes hi]
   obtain ⟨x, c', ex, x0, x1, _, hx⟩ := spec_l01Below_ev _ 6 h3
   rw [ex, bnd_s]
   simp only
   have step : ∃ w' c2, (sel (x == 0) (bnd (spec_l01Byte c') fun q16 => some (q16.1, q16.2.b_, q16.2.i_, q16.2.h_)) (sel (x == 1) (bnd (spec_l01Below c' 9) fun q17 => some ((IntKind.wrap .i64 (BitVec.ofInt (IntKind.bits .i64) (wrapK .i64 ((wrapK .i64 (w + q17.1)) + 252)) &&& BitVec.ofInt (IntKind.bits .i64) 255).toNat), q17.2.b_, q17.2.i_, q17.2.h_)) (some (w, c'.b_, c'.i_, c'.h_)))) = some (w', c2.b_, c2.i_, c2.h_) ∧ (0 ≤ w' ∧ w' ≤ 255) ∧ curOk c2 := by
    cases e0 : (x == 0) with
    | true =>
     obtain ⟨y, c2, ey, y0, y1, hy⟩ := spec_l01Byte_ev c' hx
     rw [sel_t, ey, bnd_s]
     exact ⟨y, c2, rfl, ⟨y0, y1⟩, hy⟩
    | false =>
     rw [sel_f]
     cases e1 : (x == 1) with
     | true =>
      obtain ⟨y, c2, ey, y0, y1, _, hy⟩ := spec_l01Below_ev c' 9 hx
      rw [sel_t, ey, bnd_s]
      exact ⟨_, c2, rfl, and_255 _, hy⟩
     | false => rw [sel_f]; exact ⟨w, c', rfl, hw, hx⟩
   obtain ⟨w', c2, es, hw', hc2⟩ := step
   rw [es, bnd_s, req_p (by rw [hm]; simp only [List.length_singleton]; omega)]
   refine .inr ⟨_, rfl, ?_, ?_, fun _ h => h⟩
   ·
    simp only
    rw [wk (e := i + 1) (by omega) (by omega)]
    exact ⟨hw', by omega, by omega, hc2, by simp; omega⟩
   ·
    simp only; rw [wk (e := i + 1) (by omega) (by omega)]; omega
  ·
   rw [sel_no hi]
   exact .inl ⟨_, rfl, by simp only; omega, h3⟩) (z, 0, c0.b_, c0.i_, c0.h_, []) ⟨⟨z0, z1⟩, by simp, h0, hz, by simp⟩
 rw [h, bnd_s]
 exact ⟨_, _, rfl, by rw [strOfNums_size]; exact h2, h3⟩
theorem spec_l12Sized_ev (c : L01Cur) (w h : Int) (hc : curOk c) (hw : 1 ≤ w ∧ w ≤ 256) (hh : 1 ≤ h ∧ h ≤ 256) : ∃ p c', spec_l12Sized c w h = some (p, c') ∧ p.Wide = w ∧ p.High = h ∧ picOk p = true ∧ curOk c' := by
 have a := area_small hw hh
 unfold spec_l12Sized
 rw [wk (e := w * h) (by omega) (by omega)]
 obtain ⟨s, c', e, hs, hc'⟩ := spec_l12Dots_ev c (w * h) hc (by omega) (by omega)
 rw [e, bnd_s]
 exact ⟨_, _, rfl, rfl, rfl, picOk_of hw hh hs, hc'⟩
theorem spec_l17Near_ev (c : L01Cur) (p : Pic) (hc : curOk c) (ok : picOk p = true) : ∃ q c', spec_l17Near c p = some (q, c') ∧ q.Wide = p.Wide ∧ q.High = p.High ∧ picOk q = true ∧ curOk c' := by
 have hm : maxLen = 9223372036854775807 := rfl
 obtain ⟨k1, k2, k3⟩ := picOk_parts ok
 have ar := area_small k1 k2
 unfold spec_l17Near
 obtain ⟨x, c1, e1, x0, x1, _, h1⟩ := spec_l01Below_ev c 7 hc
 obtain ⟨y, c2, e2, y0, y1, _, h2⟩ := spec_l01Below_ev c1 5 h1
 obtain ⟨z, c3, e3, h3⟩ := spec_l01Once_ev c2 3 h2
 have x1' := x1 (by omega)
 have y1' := y1 (by omega)
 rw [e1, bnd_s]
 simp only
 rw [e2, bnd_s]
 simp only
 rw [e3, bnd_s]
 simp only
 rw [wk (e := x - 3) (by omega) (by omega), wk (e := y - 2) (by omega) (by omega)]
 have hv : ∃ a b : Int, (-10 ≤ a ∧ a ≤ 10) ∧ (-10 ≤ b ∧ b ≤ 10) ∧ sel z (some ((0 : Int), (0 : Int), c3.b_, c3.i_, c3.h_)) (some (x - 3, y - 2, c3.b_, c3.i_, c3.h_)) = some (a, b, c3.b_, c3.i_, c3.h_) := by
  cases z with
  | true => exact ⟨0, 0, by omega, by omega, rfl⟩
  | false => exact ⟨x - 3, y - 2, by omega, by omega, rfl⟩
 obtain ⟨a, b, ha, hb, hv⟩ := hv
 rw [hv, bnd_s]
 obtain ⟨o, h, ho⟩ := loop_inv (f := spec_l17Near_l2 p (a, b, c3.b_, c3.i_, c3.h_)) (fun v => 0 ≤ v.1 ∧ v.1 ≤ (p.Dots.size : Int) ∧ (v.2.length : Int) = v.1) (fun v => ((p.Dots.size : Int) - v.1).toNat) (fun _ o => (o.length : Int) = (p.Dots.size : Int)) (by
  intro ⟨i, l⟩ ⟨g1, g2, g3⟩
  unfold spec_l17Near_l2
  simp only at g1 g2 g3 ⊢
  by_cases hi : i < (p.Dots.size : Int)
  ·
   rw [sel_yes hi, req_p (by omega), req_p (by omega), spec_DotAt_eq ok, bnd_s, req_p (by rw [hm]; simp only [List.length_singleton]; omega), wk (e := i + 1) (by omega) (by omega)]
   exact .inr ⟨_, rfl, ⟨by simp only; omega, by simp only; omega, by simp; omega⟩, by simp only; omega, fun _ h => h⟩
  ·
   rw [sel_no hi]
   exact .inl ⟨_, rfl, by omega⟩) (0, []) ⟨by simp, by simp, by simp⟩
 rw [h, bnd_s]
 obtain ⟨o2, h', g1, g2⟩ := loop_inv (f := spec_l17Near_l4) (fun v => 0 ≤ v.1 ∧ v.1 ≤ 6 ∧ curOk ⟨v.2.1, v.2.2.1, v.2.2.2.1⟩ ∧ (v.2.2.2.2.length : Int) = p.Dots.size) (fun v => (6 - v.1).toNat) (fun _ o => (o.1.length : Int) = p.Dots.size ∧ curOk ⟨o.2.1, o.2.2.1, o.2.2.2⟩) (by
  intro ⟨i, b, j, h, l⟩ ⟨g1, g2, g3, g4⟩
  unfold spec_l17Near_l4
  simp only at g1 g2 g3 g4 ⊢
  obtain ⟨x, c', ex, x0, x1, _, hx⟩ := spec_l01Below_ev _ 6 g3
  have x1' := x1 (by omega)
  rw [ex, bnd_s]
  simp only
  by_cases hi : i < x
  ·
   obtain ⟨y, c2, ey, y0, y1, _, hy⟩ := spec_l01Below_ev c' l.length hx
   have y1' := y1 (by omega)
   obtain ⟨z, c3, ez, z0, z1, hz⟩ := spec_l01Byte_ev c2 hy
   rw [sel_yes hi, ey, bnd_s]
   simp only
   rw [ez, bnd_s]
   simp only
   rw [req_p (by omega), req_p (by omega), wk (e := i + 1) (by omega) (by omega)]
   exact .inr ⟨_, rfl, ⟨by simp only; omega, by simp only; omega, hz, by simp only [List.length_set]; omega⟩, by simp only; omega, fun _ h => h⟩
  ·
   rw [sel_no hi]
   exact .inl ⟨_, rfl, g4, hx⟩) (0, c3.b_, c3.i_, c3.h_, o) ⟨by simp, by simp, h3, by simp only; omega⟩
 rw [h', bnd_s]
 refine ⟨_, _, rfl, rfl, rfl, picOk_of k1 k2 ?_, g2⟩
 simp only
 rw [strOfNums_size]; omega
def heldAt (p : Pic) (x y : Int) : Bool := decide (0 ≤ x ∧ x ≤ p.Wide - 8 ∧ 0 ≤ y ∧ y ≤ p.High - 8)
def rd (x : List Int) (i : Int) : Int := x.getD i.toNat 0
theorem rd_def (x : List Int) (i : Int) : x.getD i.toNat 0 = rd x i := rfl
theorem rd_nums (s : ByteArray) (i : Int) : rd (numsOf s) i = btOf s i := by
 unfold rd numsOf btOf
 by_cases h : i.toNat < s.size
 ·
  rw [dif_pos h, List.getD_eq_getElem?_getD, List.getElem?_map, Array.getElem?_toList, Array.getElem?_eq_getElem h]
  rfl
 ·
  rw [dif_neg h, List.getD_eq_getElem?_getD, List.getElem?_eq_none (by rw [List.length_map, Array.length_toList]; exact Nat.le_of_not_lt h)]
  rfl
def tz (x : List Int) : Nat := (x.reverse.takeWhile (· == 0)).length
theorem tz_zero (x : List Int) : tz (x ++ [0]) = tz x + 1 := by simp [tz, List.takeWhile_cons]
theorem tz_ne (x : List Int) (b : Int) (h : b ≠ 0) : tz (x ++ [b]) = 0 := by simp [tz, List.takeWhile_cons, h]
theorem tz_le (x : List Int) : tz x ≤ x.length := by
 have := List.Sublist.length_le (List.takeWhile_sublist (fun a : Int => a == 0) (l := x.reverse))
 simpa [tz] using this
theorem rd_app2 (x : List Int) (b c : Int) : rd (x ++ [b, c]) ((x.length : Int) + 1) = c ∧ rd (x ++ [b, c]) (x.length : Int) = b := by
 constructor
 ·
  simp [rd, List.getD_eq_getElem?_getD, show ((x.length : Int) + 1).toNat = x.length + 1 from by omega]
 ·
  simp [rd, List.getD_eq_getElem?_getD]
theorem tz_two (x : List Int) : 2 ≤ tz x ↔ (2 ≤ x.length ∧ rd x ((x.length : Int) - 1) = 0 ∧ rd x ((x.length : Int) - 2) = 0) := by
 rcases List.eq_nil_or_concat x with rfl | ⟨y, c, rfl⟩
 ·
  simp [tz]
 ·
  rcases List.eq_nil_or_concat y with rfl | ⟨z, b, rfl⟩
  ·
   constructor
   ·
    intro h; have := tz_le ([].concat c); simp at this h; omega
   ·
    intro h; simp at h
  ·
   simp only [List.concat_eq_append, List.append_assoc, List.singleton_append]
   have e1 := (rd_app2 z b c).1
   have e2 := (rd_app2 z b c).2
   rw [show (((z ++ [b, c]).length : Nat) : Int) - 1 = (z.length : Int) + 1 by simp; omega, show (((z ++ [b, c]).length : Nat) : Int) - 2 = (z.length : Int) by simp, e1, e2]
   by_cases hc : c = 0
   ·
    by_cases hb : b = 0
    ·
     subst hc; subst hb
     rw [show z ++ [(0 : Int), 0] = (z ++ [0]) ++ [0] by simp, tz_zero, tz_zero]
     simp
    ·
     subst hc
     rw [show z ++ [b, (0 : Int)] = (z ++ [b]) ++ [0] by simp, tz_zero, tz_ne _ _ hb]
     simp [hb]
   ·
    rw [show z ++ [b, c] = (z ++ [b]) ++ [c] by simp, tz_ne _ _ hc]
    simp [hc]
def escStep (x : List Int) (b : Int) : List Int := (if b < 4 ∧ 2 ≤ tz x then x ++ [3] else x) ++ [b]
def escL (x : List Int) (t : List Int) : List Int := t.foldl escStep x
theorem escL_nil (x : List Int) : escL x [] = x := rfl
theorem escL_cons (x : List Int) (b : Int) (t : List Int) : escL x (b :: t) = escL (escStep x b) t := rfl
theorem rd_drop0 (a : List Int) (i : Nat) (h : i < a.length) : a.drop i = rd a i :: a.drop (i + 1) := by
 rw [List.drop_eq_getElem_cons h]; simp [rd, List.getD_eq_getElem?_getD, List.getElem?_eq_getElem h]
theorem escL_len (t : List Int) : ∀ x, (escL x t).length ≤ x.length + 2 * t.length := by
 induction t with
 | nil => intro x; rw [escL_nil]; simp
 | cons b t ih =>
  intro x
  rw [escL_cons]
  have := ih (escStep x b)
  have h2 : (escStep x b).length ≤ x.length + 2 := by unfold escStep; split <;> simp
  rw [List.length_cons]; omega
def escV (a : ByteArray) : ByteArray × Bool := if 1 ≤ a.size ∧ a.size ≤ 60000 ∧ btOf a ((a.size : Int) - 1) ≠ 0 then (strOfNums (escL [] (numsOf a)), true) else ((⟨#[]⟩ : ByteArray), false)
theorem escV_size (a : ByteArray) : (escV a).1.size ≤ 120000 := by
 unfold escV
 split
 ·
  rename_i h
  have := escL_len (numsOf a) []
  rw [numsOf_length, List.length_nil] at this
  simp only [strOfNums_size]
  omega
 ·
  exact Nat.zero_le _
def frmL : List ByteArray → List Int → ByteArray × Bool
 | [], x => (strOfNums x, true)
 | u :: us, x => if (escV u).2 = true then (if x.length + 3 + (escV u).1.size > 60000 then ((⟨#[]⟩ : ByteArray), false) else frmL us ((x ++ [0, 0, 1]) ++ numsOf (escV u).1)) else ((⟨#[]⟩ : ByteArray), false)
def frmV (l : List ByteArray) : ByteArray × Bool := if l.length > 400 then ((⟨#[]⟩ : ByteArray), false) else frmL l []
theorem frm_size : ∀ (l : List ByteArray) (x : List Int), x.length ≤ 60000 → (frmL l x).1.size ≤ 60000
 | [], x, h => by simpa [frmL, strOfNums_size] using h
 | u :: us, x, h => by
  rw [frmL]
  split
  ·
   split
   ·
    simp [ByteArray.size]
   ·
    rename_i h2
    refine frm_size us _ ?_
    rw [List.length_append, numsOf_length, List.length_append]; simp; omega
  ·
   simp [ByteArray.size]
theorem frmV_size (l : List ByteArray) : (frmV l).1.size ≤ 60000 := by
 unfold frmV
 split
 ·
  simp [ByteArray.size]
 ·
  exact frm_size _ _ (by simp)
theorem escL_at (a : ByteArray) (x : List Int) (i : Nat) (h : i < a.size) : escL x ((numsOf a).drop i) = escL (escStep x (btOf a i)) ((numsOf a).drop (i + 1)) := by
 rw [rd_drop0 _ i (by rw [numsOf_length]; exact h), escL_cons, rd_nums]
theorem esc_end (a : ByteArray) (x : List Int) : escL x ((numsOf a).drop a.size) = x := by
 rw [List.drop_eq_nil_of_le (by rw [numsOf_length]; omega), escL_nil]
theorem escStep_len (x : List Int) (b : Int) : (escStep x b).length ≤ x.length + 2 := by unfold escStep; split <;> simp
theorem spec_l04Escaped_eq (a : ByteArray) (h : a.size ≤ 60000) : spec_l04Escaped a = some (strOfNums (escL [] (numsOf a))) := by
 have hm : maxLen = 9223372036854775807 := rfl
 unfold spec_l04Escaped
 have key : ∀ i : Nat, i ≤ a.size → ∀ x : List Int, x.length ≤ 2 * i → loop (spec_l04Escaped_l2 a) ((i : Int), x) = some (escL x ((numsOf a).drop i)) := by
  refine down_to _ ?_ ?_
  ·
   intro x _
   rw [esc_end]
   exact ldone (by unfold spec_l04Escaped_l2; rw [sel_no (by simp)])
  ·
   intro i hi ih x hx
   rw [escL_at a x i hi]
   have hl := escStep_len x (btOf a i)
   refine lgo (y := (((i + 1 : Nat) : Int), escStep x (btOf a i))) ?_ (ih _ (by omega))
   have ht := tz_two x
   have hc : (sel (decide ((x.length : Int) ≥ 2)) (
     req (0 ≤ (wrapK .i64 ((x.length : Int) - 1)) ∧ (wrapK .i64 ((x.length : Int) - 1)) < x.length) <|
     req ((wrapK .i64 ((x.length : Int) - 1)).toNat < x.length) <|
     sel ((x.getD ((wrapK .i64 ((x.length : Int) - 1)).toNat) 0) == 0) (
     req (0 ≤ (wrapK .i64 ((x.length : Int) - 2)) ∧ (wrapK .i64 ((x.length : Int) - 2)) < x.length) <|
     req ((wrapK .i64 ((x.length : Int) - 2)).toNat < x.length) <|
     sel ((x.getD ((wrapK .i64 ((x.length : Int) - 2)).toNat) 0) == 0) (
     req (0 ≤ (i : Int) ∧ (i : Int) < a.size) <|
     some (decide ((btOf a i) < 4))) (
     some false)) (
     some false)) (
     some false)) = some (decide (btOf a i < 4 ∧ 2 ≤ tz x)) := by
    rw [wk (e := (x.length : Int) - 1) (by omega) (by omega), wk (e := (x.length : Int) - 2) (by omega) (by omega)]
    by_cases h2 : (x.length : Int) ≥ 2
    ·
     rw [sel_yes h2, req_p (by omega), req_p (by omega), req_p (by omega), req_p (by omega), req_p (by omega), rd_def, rd_def]
     by_cases h3 : rd x ((x.length : Int) - 1) = 0
     ·
      rw [sel_pos (by simpa using h3)]
      by_cases h4 : rd x ((x.length : Int) - 2) = 0
      ·
       rw [sel_pos (by simpa using h4)]
       have : 2 ≤ tz x := ht.2 ⟨by omega, h3, h4⟩
       congr 1; rw [decide_eq_decide]; omega
      ·
       rw [sel_neg (by simpa using h4), decide_eq_false (fun h => h4 (ht.1 h.2).2.2)]
     ·
      rw [sel_neg (by simpa using h3), decide_eq_false (fun h => h3 (ht.1 h.2).2.1)]
    ·
     rw [sel_no h2, decide_eq_false (fun h => by have := (ht.1 h.2).1; omega)]
   unfold spec_l04Escaped_l2
   simp only
   rw [sel_yes (by omega), hc, bnd_s]
   unfold escStep
   by_cases hp : btOf a i < 4 ∧ 2 ≤ tz x
   ·
    rw [sel_yes hp, if_pos hp, req_p (by simp only [List.length_singleton]; omega), bnd_s, req_p (by omega), req_p (by simp only [List.length_append, List.length_singleton]; omega), wk (by omega) (by omega)]
    rfl
   ·
    rw [sel_no hp, if_neg hp, bnd_s, req_p (by omega), req_p (by simp only [List.length_singleton]; omega), wk (by omega) (by omega)]
    rfl
 exact (bnd_e (key 0 (by omega) [] (by simp))).trans rfl
theorem spec_Escaped_eq (a : ByteArray) (hs : a.size ≤ 9223372036854775807) : spec_Escaped a = some (escV a) := by
 unfold spec_Escaped escV
 by_cases h : (a.size : Int) = 0
 ·
  rw [sel_pos (by simpa using h), bnd_s, sel_t, if_neg (by omega)]
 ·
  rw [sel_neg (by simpa using h)]
  by_cases h1 : (a.size : Int) > 60000
  ·
   rw [sel_yes h1, bnd_s, sel_t, if_neg (by omega)]
  ·
   rw [sel_no h1, wk (by omega) (by omega), req_p (by omega), bnd_s, spec_l04Escaped_eq a (by omega), bnd_s]
   by_cases h2 : btOf a ((a.size : Int) - 1) = 0
   ·
    rw [sel_pos (by simpa using h2), if_neg (fun hh => hh.2.2 h2)]
   ·
    rw [sel_neg (by simpa using h2), if_pos ⟨by omega, by omega, h2⟩]
theorem escs_get (l : List ByteArray) (i : Nat) (h : i < l.length) : l.getD i dByteArray = l[i] := getD_at l i h _
theorem spec_Framed_eq (l : List ByteArray) (hs : ∀ u ∈ l, u.size ≤ 9223372036854775807) : spec_Framed l = some (frmV l) := by
 have hm : maxLen = 9223372036854775807 := rfl
 unfold spec_Framed frmV
 by_cases h : (l.length : Int) > 400
 ·
  rw [sel_yes h, if_pos (by omega)]
 ·
  rw [sel_no h, if_neg (by omega)]
  have key : ∀ i : Nat, i ≤ l.length → ∀ x : List Int, x.length ≤ 60000 → ∃ o, loop (spec_Framed_l2 l) ((i : Int), x) = some o ∧ (match o with | .out v => some ((strOfNums v), true) | .ret r => some r) = some (frmL (l.drop i) x) := by
   refine down_to _ ?_ ?_
   ·
    intro x _
    rw [List.drop_eq_nil_of_le (Nat.le_refl _), frmL]
    exact ⟨_, ldone (by unfold spec_Framed_l2; rw [sel_no (by simp)]), rfl⟩
   ·
    intro i hi ih x hx
    have hz := escV_size l[i]
    have hn := numsOf_length (escV l[i]).1
    rw [List.drop_eq_getElem_cons hi, frmL]
    have st : spec_Framed_l2 l ((i : Int), x) = if (escV l[i]).2 = true then (if x.length + 3 + (escV l[i]).1.size > 60000 then some (.done (.ret ((⟨#[]⟩ : ByteArray), false))) else some (.go (((i + 1 : Nat) : Int), (x ++ [0, 0, 1]) ++ numsOf (escV l[i]).1))) else some (.done (.ret ((⟨#[]⟩ : ByteArray), false))) := by
     unfold spec_Framed_l2
     simp only [Int.toNat_natCast]
     rw [sel_yes (by omega), req_p (by omega), escs_get l i hi, spec_Escaped_eq _ (hs _ (List.getElem_mem hi)), bnd_s]
     cases h1 : (escV l[i]).2 with
     | false => rw [if_neg (by simp)]; rfl
     | true =>
      rw [if_pos rfl, Bool.not_true, sel_f, req_p (by simp only [List.length_cons, List.length_nil]; omega), req_p (by simp only [List.length_append, List.length_cons, List.length_nil]; omega), wk (by omega) (by omega)]
      by_cases h2 : x.length + 3 + (escV l[i]).1.size > 60000
      ·
       rw [if_pos h2, sel_yes (by simp only [List.length_append, List.length_cons, List.length_nil]; omega)]
      ·
       rw [if_neg h2, sel_no (by simp only [List.length_append, List.length_cons, List.length_nil]; omega)]
       rfl
    by_cases h1 : (escV l[i]).2 = true
    ·
     rw [if_pos h1] at st ⊢
     by_cases h2 : x.length + 3 + (escV l[i]).1.size > 60000
     ·
      rw [if_pos h2] at st ⊢
      exact ⟨_, ldone st, rfl⟩
     ·
      rw [if_neg h2] at st ⊢
      obtain ⟨o, ho, ho2⟩ := ih ((x ++ [0, 0, 1]) ++ numsOf (escV l[i]).1) (by rw [List.length_append, List.length_append, hn, List.length_cons, List.length_cons, List.length_cons, List.length_nil]; omega)
      exact ⟨o, lgo st ho, ho2⟩
    ·
     rw [if_neg h1] at st ⊢
     exact ⟨_, ldone st, rfl⟩
  obtain ⟨o, ho, ho2⟩ := key 0 (by omega) [] (by simp)
  refine (bnd_e ho).trans ?_
  cases o <;> exact ho2
def inB (B : Int) (l : List Int) : Prop := ∀ x ∈ l, -B ≤ x ∧ x ≤ B
theorem inB_mono {B C : Int} {l : List Int} (h : inB B l) (hc : B ≤ C) : inB C l := fun x hx => by have := h x hx; omega
theorem inB_append {B : Int} {a b : List Int} (ha : inB B a) (hb : inB B b) : inB B (a ++ b) := fun x hx => (List.mem_append.1 hx).elim (ha x) (hb x)
theorem inB_nil (B : Int) : inB B [] := fun x hx => by simp at hx
theorem inB_one {B x : Int} (h : -B ≤ x ∧ x ≤ B) : inB B [x] := fun y hy => by rw [List.mem_singleton.1 hy]; exact h
theorem inB_set {B : Int} {l : List Int} (h : inB B l) (i : Nat) {y : Int} (hy : -B ≤ y ∧ y ≤ B) : inB B (l.set i y) := fun x hx => by
 rcases List.mem_or_eq_of_mem_set hx with hx | hx
 ·
  exact h x hx
 ·
  rw [hx]; exact hy
theorem inB_rep (n : Nat) {B : Int} (h : 0 ≤ B) : inB B (List.replicate n 0) := fun x hx => by rw [List.eq_of_mem_replicate hx]; omega
theorem inB_at {B : Int} {l : List Int} (h : inB B l) {i : Nat} (hi : i < l.length) : -B ≤ l.getD i 0 ∧ l.getD i 0 ≤ B := h _ (by rw [getD_at l i hi]; exact List.getElem_mem _)
theorem inB_take {B : Int} {l : List Int} (h : inB B l) (n : Nat) : inB B (l.take n) := fun x hx => h x (List.mem_of_mem_take hx)
theorem inB_drop {B : Int} {l : List Int} (h : inB B l) (n : Nat) : inB B (l.drop n) := fun x hx => h x (List.mem_of_mem_drop hx)
theorem st_loop {S : Type} {f : Int × S → Option (Lp (Int × S) S)} (n : Nat) (I : Nat → S → Prop) (hs : ∀ (i : Nat) (l : S), i < n → I i l → ∃ l', f ((i : Int), l) = some (.go (((i + 1 : Nat) : Int), l')) ∧ I (i + 1) l') (he : ∀ l, f ((n : Int), l) = some (.done l)) (l0 : S) (h0 : I 0 l0) : ∃ o, loop f (0, l0) = some o ∧ I n o := by
 have key : ∀ i : Nat, i ≤ n → ∀ l, I i l → ∃ o, loop f ((i : Int), l) = some o ∧ I n o := by
  refine down_to _ ?_ ?_
  ·
   intro l h; exact ⟨l, ldone (he l), h⟩
  ·
   intro i hi ih l h
   obtain ⟨l', e, h'⟩ := hs i l hi h
   obtain ⟨o, e2, h2⟩ := ih l' h'
   exact ⟨o, lgo e e2, h2⟩
 exact key 0 (by omega) l0 h0
theorem acc_loop {S : Type} {f : S × Int → Option (Lp (S × Int) S)} (n : Nat) (I : Nat → S → Prop) (hs : ∀ (i : Nat) (l : S), i < n → I i l → ∃ l', f (l, (i : Int)) = some (.go (l', ((i + 1 : Nat) : Int))) ∧ I (i + 1) l') (he : ∀ l, f (l, (n : Int)) = some (.done l)) (l0 : S) (h0 : I 0 l0) : ∃ o, loop f (l0, 0) = some o ∧ I n o := by
 have key : ∀ i : Nat, i ≤ n → ∀ l, I i l → ∃ o, loop f (l, (i : Int)) = some o ∧ I n o := by
  refine down_to _ ?_ ?_
  ·
   intro l h; exact ⟨l, ldone (he l), h⟩
  ·
   intro i hi ih l h
   obtain ⟨l', e, h'⟩ := hs i l hi h
   obtain ⟨o, e2, h2⟩ := ih l' h'
   exact ⟨o, lgo e e2, h2⟩
 exact key 0 (by omega) l0 h0
theorem getD_set_at (l : List Int) (i j : Nat) (y : Int) (hi : i < l.length) : (l.set i y).getD j 0 = if i = j then y else l.getD j 0 := by
 rw [List.getD_eq_getElem?_getD, List.getElem?_set, List.getD_eq_getElem?_getD]
 by_cases h : i = j
 ·
  subst h; rw [if_pos rfl, if_pos rfl, if_pos hi]; rfl
 ·
  rw [if_neg h, if_neg h]
theorem map_loop {f : Int × List Int → Option (Lp (Int × List Int) (List Int))} (n : Nat) (P Q : Int → Prop) (hs : ∀ (i : Nat) (l : List Int), i < n → l.length = n → P (l.getD i 0) → ∃ y, f ((i : Int), l) = some (.go (((i + 1 : Nat) : Int), l.set i y)) ∧ Q y) (he : ∀ l, f ((n : Int), l) = some (.done l)) (l0 : List Int) (h0 : l0.length = n) (hb : ∀ x ∈ l0, P x) : ∃ o, loop f (0, l0) = some o ∧ o.length = n ∧ ∀ x ∈ o, Q x := by
 obtain ⟨o, e, h1, h2, _⟩ := st_loop (f := f) n (fun i l => l.length = n ∧ (∀ j, j < i → Q (l.getD j 0)) ∧ ∀ j, i ≤ j → j < n → P (l.getD j 0)) (by
  intro i l hi ⟨g1, g2, g3⟩
  obtain ⟨y, e, hy⟩ := hs i l hi g1 (g3 i (Nat.le_refl _) hi)
  refine ⟨_, e, by rw [List.length_set]; exact g1, fun j hj => ?_, fun j hj hj2 => ?_⟩
  ·
   rw [getD_set_at l i j y (by omega)]
   by_cases h : i = j
   ·
    rw [if_pos h]; exact hy
   ·
    rw [if_neg h]; exact g2 j (by omega)
  ·
   rw [getD_set_at l i j y (by omega), if_neg (by omega)]; exact g3 j (by omega) hj2) he l0 ⟨h0, fun j hj => by omega, fun j _ hj => hb _ (by rw [getD_at l0 j (by omega)]; exact List.getElem_mem _)⟩
 refine ⟨o, e, h1, fun x hx => ?_⟩
 obtain ⟨j, hj, rfl⟩ := List.getElem_of_mem hx
 have := h2 j (by omega)
 rwa [getD_at o j hj] at this
theorem l09All_yes (l : List Int) (n B : Int) (hn : (l.length : Int) = n) (hn2 : n ≤ 1000000) (hB : 0 ≤ B ∧ B ≤ 100000000) (h : inB B l) : spec_l09All l n B = some true := by
 unfold spec_l09All
 rw [sel_neg (by simp only [bne_eq_false_iff_eq]; exact hn), self_loop l.length (f := spec_l09All_l2 l n B) (by
  intro i hi
  have := inB_at h hi
  unfold spec_l09All_l2
  rw [sel_yes (by omega), req_p (by omega), wk (e := 0 - B) (by omega) (by omega), spec_l01In_eq, bnd_s, Int.toNat_natCast, decide_eq_true (by omega), Bool.not_true, sel_f, wk (by omega) (by omega)]
  rfl) (by unfold spec_l09All_l2; rw [sel_no (by omega)]), bnd_s]
def scanInner (n i : Int) (v17 : Int × Int) : Option (Lp (Int × Int) (Ou Unit Int)) :=
 sel (decide (v17.2 ≤ (wrapK .i64 ((wrapK .i64 (2 * n)) - 2)))) (
 bnd (it (spec_ScanAt_l14 n i v17) 20 (v17.1, 0)) fun o47 => match o47 with
 | .out v43 => (
 some (.go (v43, wrapK .i64 (v17.2 + 1))))
 | .ret r => some (.done (.ret r))) (
 some (.done (.out ())))
theorem scanInner_is {n i : Int} {v : Int × Int} {x : Lp (Int × Int) (Ou Unit Int)} (h : scanInner n i v = some x) : spec_ScanAt_l12 n i v = some x := by
 unfold scanInner at h
 unfold spec_ScanAt_l12
 rcases sel_some h with ⟨hb, h⟩ | ⟨hb, h⟩
 ·
  rw [hb, sel_t]
  obtain ⟨a, h1, h2⟩ := bnd_some h
  rw [loop_it.2 ⟨20, h1⟩, bnd_s]
  exact h2
 ·
  rw [hb, sel_f]; exact h
theorem it_of {V O : Type} {f g : V → Option (Lp V O)} (hf : ∀ v y, f v = some y → g v = some y) {o : O} : ∀ (k : Nat) (v : V), it f k v = some o → it g k v = some o
 | 0, v, h => by cases h
 | k + 1, v, h => by
  rw [it] at h ⊢
  cases e : f v with
  | none => rw [e] at h; cases h
  | some s =>
   rw [e] at h
   rw [hf v s e]
   cases s with
   | go y => exact it_of hf k y h
   | done o' => exact h
def scanPlace (n i : Int) : Int := match it (scanInner n i) 20 (0, 0) with | some (.ret q) => q | _ => -1
theorem scan4_ok : ∀ i : Fin 16, (0 ≤ scanPlace 4 (i.val : Int) ∧ scanPlace 4 (i.val : Int) < 16) := by decide +kernel
theorem scan8_ok : ∀ i : Fin 64, (0 ≤ scanPlace 8 (i.val : Int) ∧ scanPlace 8 (i.val : Int) < 64) := by decide +kernel
theorem scanPlace_in (n : Int) (hn : n = 4 ∨ n = 8) (i : Nat) (hi : (i : Int) < n * n) : 0 ≤ scanPlace n i ∧ scanPlace n i < n * n := by
 rcases hn with rfl | rfl
 ·
  exact scan4_ok ⟨i, by omega⟩
 ·
  exact scan8_ok ⟨i, by omega⟩
theorem spec_ScanAt_ev (n : Int) (hn : n = 4 ∨ n = 8) (i : Nat) (hi : (i : Int) < n * n) : spec_ScanAt n i = some (scanPlace n i) := by
 have hp := scanPlace_in n hn i hi
 unfold spec_ScanAt
 have hw : wrapK .i64 (n * n) = n * n := by rcases hn with rfl | rfl <;> exact wk (by omega) (by omega)
 have hc : (sel (n != 4) (sel (n != 8) (some true) (sel (decide ((i : Int) < 0)) (some true) (some (decide ((i : Int) ≥ (wrapK .i64 (n * n))))))) (sel (decide ((i : Int) < 0)) (some true) (some (decide ((i : Int) ≥ (wrapK .i64 (n * n))))))) = some false := by
  rw [hw, sel_no (show ¬ (i : Int) < 0 by omega), decide_eq_false (show ¬ (i : Int) ≥ n * n by omega)]
  rcases hn with rfl | rfl <;> rfl
 rw [hc, bnd_s, sel_f]
 unfold scanPlace at hp ⊢
 cases e : it (scanInner n i) 20 (0, 0) with
 | none => rw [e] at hp; simp only at hp; omega
 | some s =>
  rw [e] at hp
  have h := it_of (fun v y => scanInner_is (n := n) (i := i)) 20 _ e
  rw [loop_it.2 ⟨20, h⟩, bnd_s]
  cases s with
  | out u => simp only at hp; omega
  | ret q => rfl
theorem spec_Scanned_ev (n : Int) (hn : n = 4 ∨ n = 8) (l : List Int) (B : Int) (hl : (l.length : Int) = n * n) (hb : inB B l) : ∃ o, spec_Scanned n l = some (o, true) ∧ o.length = l.length ∧ inB B o := by
 have hm : maxLen = 9223372036854775807 := rfl
 have hw : wrapK .i64 (n * n) = n * n := by rcases hn with rfl | rfl <;> exact wk (by omega) (by omega)
 have hl2 : l.length ≤ 64 := by rcases hn with rfl | rfl <;> omega
 unfold spec_Scanned
 have hc : (sel (n != 4) (sel (n != 8) (some true) (some ((l.length : Int) != (wrapK .i64 (n * n))))) (some ((l.length : Int) != (wrapK .i64 (n * n))))) = some false := by
  rw [hw, hl, bne_self_eq_false]
  rcases hn with rfl | rfl <;> rfl
 rw [hc, bnd_s, sel_f]
 obtain ⟨o, e, h1, h2⟩ := st_loop (f := spec_Scanned_l2 n l) l.length (fun i s => s.length = i ∧ inB B s) (by
  intro i s hi ⟨g1, g2⟩
  have hp := scanPlace_in n hn i (by omega)
  have ha := inB_at hb (i := (scanPlace n i).toNat) (by omega)
  unfold spec_Scanned_l2
  simp only
  rw [hw, sel_yes (by omega), spec_ScanAt_ev n hn i (by omega), bnd_s, req_p (by omega), req_p (by simp only [List.length_singleton]; omega), wk (by omega) (by omega)]
  exact ⟨_, rfl, by simp; omega, inB_append g2 (inB_one ha)⟩) (by intro s; unfold spec_Scanned_l2; simp only; rw [hw, sel_no (by omega)]) [] ⟨rfl, inB_nil B⟩
 exact ⟨o, (bnd_e e).trans rfl, h1, h2⟩
theorem spec_Unscanned_ev (n : Int) (hn : n = 4 ∨ n = 8) (l : List Int) (B : Int) (hB : 0 ≤ B) (hl : (l.length : Int) = n * n) (hb : inB B l) : ∃ o, spec_Unscanned n l = some (o, true) ∧ o.length = l.length ∧ inB B o := by
 have hm : maxLen = 9223372036854775807 := rfl
 have hw : wrapK .i64 (n * n) = n * n := by rcases hn with rfl | rfl <;> exact wk (by omega) (by omega)
 have hl2 : l.length ≤ 64 := by rcases hn with rfl | rfl <;> omega
 unfold spec_Unscanned
 have hc : (sel (n != 4) (sel (n != 8) (some true) (some ((l.length : Int) != (wrapK .i64 (n * n))))) (some ((l.length : Int) != (wrapK .i64 (n * n))))) = some false := by
  rw [hw, hl, bne_self_eq_false]
  rcases hn with rfl | rfl <;> rfl
 rw [hc, bnd_s, sel_f, req_p (by omega), Int.toNat_natCast]
 obtain ⟨o, e, h1, h2⟩ := st_loop (f := spec_Unscanned_l2 n l) l.length (fun i s => s.length = l.length ∧ inB B s) (by
  intro i s hi ⟨g1, g2⟩
  have hp := scanPlace_in n hn i (by omega)
  have ha := inB_at hb hi
  unfold spec_Unscanned_l2
  simp only
  rw [hw, sel_yes (by omega), spec_ScanAt_ev n hn i (by omega), bnd_s, req_p (by omega), req_p (by omega), req_p (by omega), wk (by omega) (by omega), Int.toNat_natCast]
  exact ⟨_, rfl, by rw [List.length_set]; exact g1, inB_set g2 _ ha⟩) (by intro s; unfold spec_Unscanned_l2; simp only; rw [hw, sel_no (by omega)]) (List.replicate l.length 0) ⟨List.length_replicate, inB_rep _ hB⟩
 exact ⟨o, (bnd_e e).trans rfl, h1, h2⟩
def signPlace (u v : Int) : Int := match it spec_SignOf_l2 10 (1, (IntKind.wrap .i64 (BitVec.ofInt (IntKind.bits .i64) u &&& BitVec.ofInt (IntKind.bits .i64) v).toNat)) with | some q => q | none => 7
theorem sign_ok : ∀ u v : Fin 8, (-1 ≤ signPlace (u.val : Int) (v.val : Int) ∧ signPlace (u.val : Int) (v.val : Int) ≤ 1) := by decide +kernel
theorem spec_SignOf_ev (u v : Nat) (hu : u < 8) (hv : v < 8) : ∃ s, spec_SignOf u v = some s ∧ -1 ≤ s ∧ s ≤ 1 := by
 have h := sign_ok ⟨u, hu⟩ ⟨v, hv⟩
 simp only at h
 unfold spec_SignOf
 rw [spec_l01In_eq, bnd_s, decide_eq_true (by omega), sel_t, spec_l01In_eq, bnd_s, decide_eq_true (by omega), Bool.not_true, bnd_s, sel_f]
 unfold signPlace at h
 cases e : it spec_SignOf_l2 10 (1, (IntKind.wrap .i64 (BitVec.ofInt (IntKind.bits .i64) (u : Int) &&& BitVec.ofInt (IntKind.bits .i64) (v : Int)).toNat)) with
 | none => rw [e] at h; simp only at h; omega
 | some q =>
  rw [e] at h
  rw [loop_it.2 ⟨10, e⟩, bnd_s]
  exact ⟨q, rfl, h⟩
def stepBase (qp : Int) : Int := if qp.tmod 6 = 0 then 10 else if qp.tmod 6 = 1 then 11 else if qp.tmod 6 = 2 then 13 else if qp.tmod 6 = 3 then 14 else if qp.tmod 6 = 4 then 16 else 18
def stepPlace (qp : Int) : Int := match it (spec_StepOf_l2 qp) 10 (stepBase qp, 0) with | some q => q | none => 0
theorem step_ok : ∀ q : Fin 41, (10 ≤ stepPlace (q.val : Int) ∧ stepPlace (q.val : Int) ≤ 1152) := by decide +kernel
theorem spec_StepOf_ev (qp : Int) (h0 : 0 ≤ qp ∧ qp ≤ 40) : ∃ s, spec_StepOf qp = some s ∧ 10 ≤ s ∧ s ≤ 1152 := by
 have h := step_ok ⟨qp.toNat, by omega⟩
 simp only at h
 rw [show ((qp.toNat : Nat) : Int) = qp by omega] at h
 unfold spec_StepOf
 rw [spec_l01In_eq, bnd_s, decide_eq_true (by omega), Bool.not_true, sel_f, req_p (by omega)]
 have hb : (sel ((qp.tmod 6) == 0) (some (10 : Int)) (sel ((qp.tmod 6) == 1) (some 11) (sel ((qp.tmod 6) == 2) (some 13) (sel ((qp.tmod 6) == 3) (some 14) (sel ((qp.tmod 6) == 4) (some 16) (some 18)))))) = some (stepBase qp) := by
  unfold stepBase
  simp only [sel_ite, beq_iff_eq]
  repeat' split
  all_goals rfl
 rw [hb, bnd_s]
 unfold stepPlace at h
 cases e : it (spec_StepOf_l2 qp) 10 (stepBase qp, 0) with
 | none => rw [e] at h; simp only at h; omega
 | some q =>
  rw [e] at h
  rw [loop_it.2 ⟨10, e⟩, bnd_s]
  exact ⟨q, rfl, h⟩
theorem spec_KindOf_ev (p : Int) (h : 0 ≤ p ∧ p ≤ 15) : ∃ k, spec_KindOf p = some k ∧ 0 ≤ k ∧ k ≤ 2 := by
 unfold spec_KindOf
 rw [spec_l01In_eq, bnd_s, decide_eq_true h, Bool.not_true, sel_f, req_p (by omega), req_p (by omega), req_p (by omega), req_p (by omega), sel_and, bnd_s]
 cases ((wrapK .i64 (p.tdiv 4)).tmod 2 == 0 && (p.tmod 4).tmod 2 == 0) with
 | true => exact ⟨0, rfl, by omega, by omega⟩
 | false =>
  rw [sel_f, sel_and, bnd_s]
  cases ((wrapK .i64 (p.tdiv 4)).tmod 2 == 1 && (p.tmod 4).tmod 2 == 1) with
  | true => exact ⟨1, rfl, by omega, by omega⟩
  | false => exact ⟨2, rfl, by omega, by omega⟩
theorem spec_l08Pick_ev (k a b c : Int) : ∃ x, spec_l08Pick k a b c = some x ∧ (x = a ∨ x = b ∨ x = c) := by
 unfold spec_l08Pick
 cases (k == 0) with
 | true => exact ⟨a, rfl, Or.inl rfl⟩
 | false =>
  cases (k == 1) with
  | true => exact ⟨b, rfl, Or.inr (Or.inl rfl)⟩
  | false => exact ⟨c, rfl, Or.inr (Or.inr rfl)⟩
theorem scale_loop (qp : Int) (h0 : 0 ≤ qp ∧ qp ≤ 40) (x : Int) (hx : 0 ≤ x ∧ x ≤ 29) : ∃ o, loop (spec_ScaleOf_l2 qp) (x, 0) = some o ∧ 0 ≤ o ∧ o ≤ 1856 := by
 obtain ⟨o, e, h1, h2⟩ := acc_loop (f := spec_ScaleOf_l2 qp) (qp / 6).toNat (fun i s => 0 ≤ s ∧ s ≤ 29 * 2 ^ i) (by
  intro i s hi ⟨g1, g2⟩
  have h6 : (2 : Int) ^ i ≤ 64 := by
   have : i ≤ 6 := by omega
   obtain rfl | rfl | rfl | rfl | rfl | rfl | rfl : i = 0 ∨ i = 1 ∨ i = 2 ∨ i = 3 ∨ i = 4 ∨ i = 5 ∨ i = 6 := by omega
   all_goals decide
  have h7 : (2 : Int) ^ (i + 1) = 2 * 2 ^ i := by rw [Int.pow_succ, Int.mul_comm]
  unfold spec_ScaleOf_l2
  simp only
  rw [req_p (by omega), tdiv_pos (by omega), wk (e := qp / 6) (by omega) (by omega), sel_yes (by omega), wk (e := 2 * s) (by omega) (by omega), wk (e := (i : Int) + 1) (by omega) (by omega)]
  exact ⟨_, rfl, by omega, by rw [h7]; omega⟩) (by intro s; unfold spec_ScaleOf_l2; simp only; rw [req_p (by omega), tdiv_pos (by omega), wk (e := qp / 6) (by omega) (by omega), sel_no (by omega)]) x ⟨hx.1, by simp; omega⟩
 have h6 : (2 : Int) ^ (qp / 6).toNat ≤ 64 := by
  generalize hi : (qp / 6).toNat = i
  obtain rfl | rfl | rfl | rfl | rfl | rfl | rfl : i = 0 ∨ i = 1 ∨ i = 2 ∨ i = 3 ∨ i = 4 ∨ i = 5 ∨ i = 6 := by omega
  all_goals decide
 exact ⟨o, e, h1, by omega⟩
theorem spec_ScaleOf_ev (qp p : Int) (h0 : 0 ≤ qp ∧ qp ≤ 40) (hp : 0 ≤ p ∧ p ≤ 15) : ∃ s, spec_ScaleOf qp p = some s ∧ 0 ≤ s ∧ s ≤ 1856 := by
 unfold spec_ScaleOf
 obtain ⟨k, e, k0, k1⟩ := spec_KindOf_ev p hp
 rw [e, bnd_s, spec_l01In_eq, bnd_s, decide_eq_true h0, sel_t, decide_eq_false (by omega), bnd_s, sel_f, req_p (by omega)]
 obtain ⟨a1, e1, b1⟩ := spec_l08Pick_ev k 10 16 13
 obtain ⟨a2, e2, b2⟩ := spec_l08Pick_ev k 11 18 14
 obtain ⟨a3, e3, b3⟩ := spec_l08Pick_ev k 13 20 16
 obtain ⟨a4, e4, b4⟩ := spec_l08Pick_ev k 14 23 18
 obtain ⟨a5, e5, b5⟩ := spec_l08Pick_ev k 16 25 20
 obtain ⟨a6, e6, b6⟩ := spec_l08Pick_ev k 18 29 23
 rw [e1, e2, e3, e4, e5, e6]
 simp only [bnd_s, sel_ss]
 obtain ⟨o, eo, o1, o2⟩ := scale_loop qp h0 (sel (qp.tmod 6 == 0) a1 (sel (qp.tmod 6 == 1) a2 (sel (qp.tmod 6 == 2) a3 (sel (qp.tmod 6 == 3) a4 (sel (qp.tmod 6 == 4) a5 (sel (qp.tmod 6 == 5) a6 0)))))) (by
  simp only [sel_ite]
  repeat' split
  all_goals omega)
 exact ⟨o, (bnd_e eo).trans rfl, o1, o2⟩
theorem spec_ShareOf_ev (qp p : Int) (h0 : 0 ≤ qp ∧ qp ≤ 40) (hp : 0 ≤ p ∧ p ≤ 15) : ∃ s, spec_ShareOf qp p = some s ∧ 0 ≤ s ∧ s ≤ 13107 := by
 unfold spec_ShareOf
 obtain ⟨k, e, k0, k1⟩ := spec_KindOf_ev p hp
 rw [e, bnd_s, spec_l01In_eq, bnd_s, decide_eq_true h0, sel_t, decide_eq_false (by omega), bnd_s, sel_f, req_p (by omega)]
 obtain ⟨a1, e1, b1⟩ := spec_l08Pick_ev k 13107 5243 8066
 obtain ⟨a2, e2, b2⟩ := spec_l08Pick_ev k 11916 4660 7490
 obtain ⟨a3, e3, b3⟩ := spec_l08Pick_ev k 10082 4194 6554
 obtain ⟨a4, e4, b4⟩ := spec_l08Pick_ev k 9362 3647 5825
 obtain ⟨a5, e5, b5⟩ := spec_l08Pick_ev k 8192 3355 5243
 obtain ⟨a6, e6, b6⟩ := spec_l08Pick_ev k 7282 2893 4559
 rw [e1, e2, e3, e4, e5, e6]
 simp only [bnd_s, sel_ss]
 refine ⟨_, rfl, ?_⟩
 simp only [sel_ite]
 repeat' split
 all_goals omega
theorem mul_sign {a s B : Int} (ha : -B ≤ a ∧ a ≤ B) (hs : -1 ≤ s ∧ s ≤ 1) : (-B ≤ a * s ∧ a * s ≤ B) ∧ (-B ≤ s * a ∧ s * a ≤ B) := by
 obtain rfl | rfl | rfl : s = -1 ∨ s = 0 ∨ s = 1 := by omega
 all_goals omega
theorem spec_l10Row_ev (p : List Int) (B : Int) (hB : 0 ≤ B ∧ B ≤ 1000000000000) (hl : p.length = 64) (hb : inB B p) (i v : Nat) (hi : i < 8) (hv : v < 8) : ∃ o, spec_l10Row p i v = some o ∧ -(8 * B) ≤ o ∧ o ≤ 8 * B := by
 unfold spec_l10Row
 obtain ⟨o, e, h1, h2⟩ := acc_loop (f := spec_l10Row_l2 p i v) 8 (fun k s => -(B * k) ≤ s ∧ s ≤ B * k) (by
  intro k s hk ⟨g1, g2⟩
  obtain ⟨q, eq, q0, q1⟩ := spec_SignOf_ev v k hv hk
  have ha := inB_at hb (i := 8 * i + k) (by omega)
  have hm := (mul_sign ha ⟨q0, q1⟩).1
  have hk8 : B * k ≤ B * 8 := Int.mul_le_mul_of_nonneg_left (by omega) hB.1
  have hk0 : B * ((k + 1 : Nat) : Int) = B * k + B := by rw [Int.natCast_add, Int.mul_add]; simp
  unfold spec_l10Row_l2
  simp only
  rw [sel_yes (by omega), wk (e := 8 * (i : Int)) (by omega) (by omega), wk (e := 8 * (i : Int) + (k : Int)) (by omega) (by omega), req_p (by omega), eq, bnd_s, show (8 * (i : Int) + (k : Int)).toNat = 8 * i + k by omega, wk (e := p.getD (8 * i + k) 0 * q) (by omega) (by omega), wk (e := s + p.getD (8 * i + k) 0 * q) (by omega) (by omega), wk (e := (k : Int) + 1) (by omega) (by omega)]
  exact ⟨_, rfl, by rw [hk0]; omega, by rw [hk0]; omega⟩) (by intro s; unfold spec_l10Row_l2; rw [sel_no (by simp)]) 0 (by simp)
 exact ⟨o, (bnd_e e).trans rfl, by omega, by omega⟩
theorem spec_l10Sums_ev (p : List Int) (B : Int) (hB : 0 ≤ B ∧ B ≤ 10000000000) (hl : p.length = 64) (hb : inB B p) : ∃ o, spec_l10Sums p = some o ∧ o.length = 64 ∧ inB (64 * B) o := by
 have hm : maxLen = 9223372036854775807 := rfl
 unfold spec_l10Sums
 obtain ⟨h, eh, hh1, hh2⟩ := st_loop (f := spec_l10Sums_l12 p) 8 (fun i s => s.length = 8 * i ∧ inB (8 * B) s) (by
  intro i s hi ⟨g1, g2⟩
  obtain ⟨t, et, t1, t2⟩ := st_loop (f := spec_l10Sums_l14 p ((i : Int), s)) 8 (fun v s => s.length = 8 * i + v ∧ inB (8 * B) s) (by
   intro v s hv ⟨g1, g2⟩
   obtain ⟨r, er, r1, r2⟩ := spec_l10Row_ev p B ⟨hB.1, by omega⟩ hl hb i v hi hv
   unfold spec_l10Sums_l14
   simp only
   rw [sel_yes (by omega), er, bnd_s, req_p (by simp only [List.length_singleton]; omega), wk (e := (v : Int) + 1) (by omega) (by omega)]
   exact ⟨_, rfl, by simp; omega, inB_append g2 (inB_one ⟨by omega, r2⟩)⟩) (by intro s; unfold spec_l10Sums_l14; rw [sel_no (by simp)]) s ⟨by omega, g2⟩
  unfold spec_l10Sums_l12
  simp only
  rw [sel_yes (by omega), et, bnd_s, wk (e := (i : Int) + 1) (by omega) (by omega)]
  exact ⟨_, rfl, by omega, t2⟩) (by intro s; unfold spec_l10Sums_l12; rw [sel_no (by simp)]) [] ⟨rfl, inB_nil _⟩
 rw [eh, bnd_s]
 obtain ⟨o, eo, o1, o2⟩ := st_loop (f := spec_l10Sums_l146 h) 8 (fun i s => s.length = 8 * i ∧ inB (64 * B) s) (by
  intro i s hi ⟨g1, g2⟩
  obtain ⟨t, et, t1, t2⟩ := st_loop (f := spec_l10Sums_l168 h ((i : Int), s)) 8 (fun v s => s.length = 8 * i + v ∧ inB (64 * B) s) (by
   intro v r hv ⟨g1, g2⟩
   obtain ⟨a, ea, a1, a2⟩ := acc_loop (f := spec_l10Sums_l172 h ((i : Int), s) ((v : Int), r)) 8 (fun k s => -(8 * B * k) ≤ s ∧ s ≤ 8 * B * k) (by
    intro k c hk ⟨g1, g2⟩
    obtain ⟨q, eq, q0, q1⟩ := spec_SignOf_ev i k hi hk
    have ha := inB_at hh2 (i := 8 * k + v) (by omega)
    have hm := (mul_sign ha ⟨q0, q1⟩).2
    have hk8 : 8 * B * k ≤ 8 * B * 8 := Int.mul_le_mul_of_nonneg_left (by omega) (by omega)
    have hk0 : 8 * B * ((k + 1 : Nat) : Int) = 8 * B * k + 8 * B := by rw [Int.natCast_add, Int.mul_add]; simp
    unfold spec_l10Sums_l172
    simp only
    rw [sel_yes (by omega), eq, bnd_s, wk (e := 8 * (k : Int)) (by omega) (by omega), wk (e := 8 * (k : Int) + (v : Int)) (by omega) (by omega), req_p (by omega), req_p (by omega), show (8 * (k : Int) + (v : Int)).toNat = 8 * k + v by omega, wk (e := q * h.getD (8 * k + v) 0) (by omega) (by omega), wk (e := c + q * h.getD (8 * k + v) 0) (by omega) (by omega), wk (e := (k : Int) + 1) (by omega) (by omega)]
    exact ⟨_, rfl, by rw [hk0]; omega, by rw [hk0]; omega⟩) (by intro s; unfold spec_l10Sums_l172; rw [sel_no (by simp)]) 0 (by simp)
   unfold spec_l10Sums_l168
   simp only
   rw [sel_yes (by omega), ea, bnd_s, req_p (by simp only [List.length_singleton]; omega), wk (e := (v : Int) + 1) (by omega) (by omega)]
   exact ⟨_, rfl, by simp; omega, inB_append g2 (inB_one ⟨by omega, by omega⟩)⟩) (by intro s; unfold spec_l10Sums_l168; rw [sel_no (by simp)]) s ⟨by omega, g2⟩
  unfold spec_l10Sums_l146
  simp only
  rw [sel_yes (by omega), et, bnd_s, wk (e := (i : Int) + 1) (by omega) (by omega)]
  exact ⟨_, rfl, by omega, t2⟩) (by intro s; unfold spec_l10Sums_l146; rw [sel_no (by simp)]) [] ⟨rfl, inB_nil _⟩
 exact ⟨o, (bnd_e eo).trans rfl, by omega, o2⟩
theorem spec_l09Down_ev (a b : Int) (ha : -1000000000000 ≤ a ∧ a ≤ 1000000000000) (hb : b = 2 ∨ b = 64) : ∃ d, spec_l09Down a b = some d ∧ b * d ≤ a ∧ a < b * d + b := by
 unfold spec_l09Down
 have h1 : b * (a.tdiv b) + a.tmod b = a := Int.mul_tdiv_add_tmod a b
 have h2 : -b < a.tmod b ∧ a.tmod b < b := by
  have hb0 : 0 < b := by omega
  refine ⟨?_, Int.tmod_lt_of_pos a hb0⟩
  have := Int.lt_tmod_of_pos a hb0
  omega
 rw [req_p (by omega), req_p (by omega)]
 generalize a.tmod b = m at h1 h2
 generalize a.tdiv b = t at h1 h2
 have ht : -1000000000001 ≤ t ∧ t ≤ 1000000000001 := by rcases hb with rfl | rfl <;> omega
 by_cases h : m < 0
 ·
  rw [sel_yes h, bnd_s, wk (e := t) (by omega) (by omega), wk (e := t - 1) (by omega) (by omega)]
  refine ⟨_, rfl, ?_⟩
  rcases hb with rfl | rfl <;> omega
 ·
  rw [sel_no h, bnd_s, wk (e := t) (by omega) (by omega)]
  refine ⟨_, rfl, ?_⟩
  rcases hb with rfl | rfl <;> omega
theorem spec_Eight_ev (p : List Int) (hl : p.length = 64) (hb : inB 255 p) : ∃ o, spec_Eight p = some o ∧ o.length = 64 := by
 unfold spec_Eight
 obtain ⟨o, e, h1, h2⟩ := spec_l10Sums_ev p 255 (by omega) hl hb
 rw [l09All_yes p 64 1000 (by omega) (by omega) (by omega) (inB_mono hb (by omega)), bnd_s, Bool.not_true, sel_f, e, bnd_s]
 exact ⟨o, rfl, h1⟩
theorem spec_EightBack_ev (p : List Int) (hl : p.length = 64) (hb : inB 5760000 p) : ∃ o, spec_EightBack p = some o ∧ o.length = 64 ∧ inB 10000000 o := by
 unfold spec_EightBack
 obtain ⟨o, e, h1, h2⟩ := spec_l10Sums_ev p 5760000 (by omega) hl hb
 rw [l09All_yes p 64 10000000 (by omega) (by omega) (by omega) (inB_mono hb (by omega)), bnd_s, Bool.not_true, sel_f, e, bnd_s]
 obtain ⟨r, er, r1, r2⟩ := map_loop (f := spec_EightBack_l2) 64 (fun x => -368640000 ≤ x ∧ x ≤ 368640000) (fun x => -10000000 ≤ x ∧ x ≤ 10000000) (by
  intro i l hi hll hx
  obtain ⟨d, ed, d1, d2⟩ := spec_l09Down_ev (l.getD i 0 + 32) 64 (by omega) (Or.inr rfl)
  unfold spec_EightBack_l2
  simp only [Int.toNat_natCast]
  rw [sel_yes (by omega), req_p (by omega), req_p (by omega), wk (e := l.getD i 0 + 32) (by omega) (by omega), ed, bnd_s, req_p (by omega), req_p (by omega), wk (e := (i : Int) + 1) (by omega) (by omega)]
  exact ⟨d, rfl, by omega, by omega⟩) (by intro s; unfold spec_EightBack_l2; rw [sel_no (by simp)]) o h1 (fun x hx => by have := h2 x hx; omega)
 exact ⟨r, (bnd_e er).trans rfl, r1, r2⟩
theorem spec_l09Flip_ev (p : List Int) (B : Int) (hB : 0 ≤ B) (hl : p.length = 16) (hb : inB B p) : ∃ o, spec_l09Flip p = some o ∧ o.length = 16 ∧ inB B o := by
 unfold spec_l09Flip
 rw [req_p (by omega)]
 obtain ⟨o, e, h1, h2⟩ := st_loop (f := spec_l09Flip_l2 p) 16 (fun i s => s.length = 16 ∧ inB B s) (by
  intro i s hi ⟨g1, g2⟩
  have ha := inB_at hb (i := i) (by omega)
  unfold spec_l09Flip_l2
  simp only
  rw [sel_yes (by omega), req_p (by omega), req_p (by omega), req_p (by omega), tmod_pos (by omega), tdiv_pos (by omega), wk (e := (i : Int) / 4) (by omega) (by omega), wk (e := (i : Int) % 4 * 4) (by omega) (by omega), wk (e := (i : Int) % 4 * 4 + (i : Int) / 4) (by omega) (by omega), req_p (by omega), req_p (by omega), wk (e := (i : Int) + 1) (by omega) (by omega), Int.toNat_natCast]
  exact ⟨_, rfl, by rw [List.length_set]; exact g1, inB_set g2 _ ha⟩) (by intro s; unfold spec_l09Flip_l2; rw [sel_no (by simp)]) (List.replicate (16 : Int).toNat 0) ⟨by simp, inB_rep _ hB⟩
 exact ⟨o, (bnd_e e).trans rfl, h1, h2⟩
theorem inB_four {B a b c d : Int} (h1 : -B ≤ a ∧ a ≤ B) (h2 : -B ≤ b ∧ b ≤ B) (h3 : -B ≤ c ∧ c ≤ B) (h4 : -B ≤ d ∧ d ≤ B) : inB B [a, b, c, d] := fun x hx => by
 simp only [List.mem_cons, List.not_mem_nil, or_false] at hx
 rcases hx with rfl | rfl | rfl | rfl
 ·
  exact h1
 ·
  exact h2
 ·
  exact h3
 ·
  exact h4
theorem spec_l09Rows_ev (p : List Int) (B : Int) (hB : 0 ≤ B ∧ B ≤ 1000000000) (hl : p.length = 16) (hb : inB B p) : ∃ o, spec_l09Rows p = some o ∧ o.length = 16 ∧ inB (6 * B) o := by
 have hm : maxLen = 9223372036854775807 := rfl
 unfold spec_l09Rows
 obtain ⟨o, e, h1, h2⟩ := st_loop (f := spec_l09Rows_l2 p) 4 (fun i s => s.length = 4 * i ∧ inB (6 * B) s) (by
  intro i s hi ⟨g1, g2⟩
  have a0 := inB_at hb (i := 4 * i) (by omega)
  have a1 := inB_at hb (i := 4 * i + 1) (by omega)
  have a2 := inB_at hb (i := 4 * i + 2) (by omega)
  have a3 := inB_at hb (i := 4 * i + 3) (by omega)
  unfold spec_l09Rows_l2
  simp only
  rw [sel_yes (by omega), wk (e := 4 * (i : Int)) (by omega) (by omega), wk (e := 4 * (i : Int) + 1) (by omega) (by omega), wk (e := 4 * (i : Int) + 2) (by omega) (by omega), wk (e := 4 * (i : Int) + 3) (by omega) (by omega), req_p (by omega), req_p (by omega), req_p (by omega), req_p (by omega), show (4 * (i : Int)).toNat = 4 * i by omega, show (4 * (i : Int) + 1).toNat = 4 * i + 1 by omega, show (4 * (i : Int) + 2).toNat = 4 * i + 2 by omega, show (4 * (i : Int) + 3).toNat = 4 * i + 3 by omega]
  generalize p.getD (4 * i) 0 = a at *
  generalize p.getD (4 * i + 1) 0 = b at *
  generalize p.getD (4 * i + 2) 0 = c at *
  generalize p.getD (4 * i + 3) 0 = d at *
  rw [wk (e := (i : Int) + 1) (by omega) (by omega)]
  have w1 : wrapK .i64 (wrapK .i64 (wrapK .i64 (a + b) + c) + d) = a + b + c + d := by
   rw [wk (e := a + b) (by omega) (by omega), wk (e := a + b + c) (by omega) (by omega), wk (by omega) (by omega)]
  have w2 : wrapK .i64 (wrapK .i64 (wrapK .i64 (wrapK .i64 (2 * a) + b) - c) - wrapK .i64 (2 * d)) = 2 * a + b - c - 2 * d := by
   rw [wk (e := 2 * a) (by omega) (by omega), wk (e := 2 * d) (by omega) (by omega), wk (e := 2 * a + b) (by omega) (by omega), wk (e := 2 * a + b - c) (by omega) (by omega), wk (by omega) (by omega)]
  have w3 : wrapK .i64 (wrapK .i64 (wrapK .i64 (a - b) - c) + d) = a - b - c + d := by
   rw [wk (e := a - b) (by omega) (by omega), wk (e := a - b - c) (by omega) (by omega), wk (by omega) (by omega)]
  have w4 : wrapK .i64 (wrapK .i64 (wrapK .i64 (a - wrapK .i64 (2 * b)) + wrapK .i64 (2 * c)) - d) = a - 2 * b + 2 * c - d := by
   rw [wk (e := 2 * b) (by omega) (by omega), wk (e := 2 * c) (by omega) (by omega), wk (e := a - 2 * b) (by omega) (by omega), wk (e := a - 2 * b + 2 * c) (by omega) (by omega), wk (by omega) (by omega)]
  rw [w1, w2, w3, w4, req_p (by simp only [List.length_cons, List.length_nil]; omega)]
  exact ⟨_, rfl, by simp; omega, inB_append g2 (inB_four (by omega) (by omega) (by omega) (by omega))⟩) (by intro s; unfold spec_l09Rows_l2; rw [sel_no (by simp)]) [] ⟨rfl, inB_nil _⟩
 exact ⟨o, (bnd_e e).trans rfl, h1, h2⟩
theorem spec_l09Backs_ev (p : List Int) (B : Int) (hB : 0 ≤ B ∧ B ≤ 1000000000) (hl : p.length = 16) (hb : inB B p) : ∃ o, spec_l09Backs p = some o ∧ o.length = 16 ∧ inB (4 * B + 2) o := by
 have hm : maxLen = 9223372036854775807 := rfl
 unfold spec_l09Backs
 obtain ⟨o, e, h1, h2⟩ := st_loop (f := spec_l09Backs_l2 p) 4 (fun i s => s.length = 4 * i ∧ inB (4 * B + 2) s) (by
  intro i s hi ⟨g1, g2⟩
  have a0 := inB_at hb (i := 4 * i) (by omega)
  have a1 := inB_at hb (i := 4 * i + 1) (by omega)
  have a2 := inB_at hb (i := 4 * i + 2) (by omega)
  have a3 := inB_at hb (i := 4 * i + 3) (by omega)
  obtain ⟨f, ef, f1, f2⟩ := spec_l09Down_ev (p.getD (4 * i + 1) 0) 2 (by omega) (Or.inl rfl)
  obtain ⟨g, eg, g1', g2'⟩ := spec_l09Down_ev (p.getD (4 * i + 3) 0) 2 (by omega) (Or.inl rfl)
  unfold spec_l09Backs_l2
  simp only
  rw [sel_yes (by omega), wk (e := 4 * (i : Int)) (by omega) (by omega), wk (e := 4 * (i : Int) + 1) (by omega) (by omega), wk (e := 4 * (i : Int) + 2) (by omega) (by omega), wk (e := 4 * (i : Int) + 3) (by omega) (by omega), req_p (by omega), req_p (by omega), req_p (by omega), req_p (by omega), show (4 * (i : Int)).toNat = 4 * i by omega, show (4 * (i : Int) + 1).toNat = 4 * i + 1 by omega, show (4 * (i : Int) + 2).toNat = 4 * i + 2 by omega, show (4 * (i : Int) + 3).toNat = 4 * i + 3 by omega, ef, bnd_s, eg, bnd_s]
  generalize p.getD (4 * i) 0 = a at *
  generalize p.getD (4 * i + 1) 0 = b at *
  generalize p.getD (4 * i + 2) 0 = c at *
  generalize p.getD (4 * i + 3) 0 = d at *
  rw [wk (e := (i : Int) + 1) (by omega) (by omega), wk (e := a + c) (by omega) (by omega), wk (e := a - c) (by omega) (by omega), wk (e := b + g) (by omega) (by omega), wk (e := f - d) (by omega) (by omega), wk (e := a + c + (b + g)) (by omega) (by omega), wk (e := a - c + (f - d)) (by omega) (by omega), wk (e := a - c - (f - d)) (by omega) (by omega), wk (e := a + c - (b + g)) (by omega) (by omega), req_p (by simp only [List.length_cons, List.length_nil]; omega)]
  exact ⟨_, rfl, by simp; omega, inB_append g2 (inB_four (by omega) (by omega) (by omega) (by omega))⟩) (by intro s; unfold spec_l09Backs_l2; rw [sel_no (by simp)]) [] ⟨rfl, inB_nil _⟩
 exact ⟨o, (bnd_e e).trans rfl, h1, h2⟩
theorem spec_Four_ev (p : List Int) (hl : p.length = 16) (hb : inB 255 p) : ∃ o, spec_Four p = some o ∧ o.length = 16 ∧ inB 9180 o := by
 unfold spec_Four
 obtain ⟨a, ea, a1, a2⟩ := spec_l09Rows_ev p 255 (by omega) hl hb
 obtain ⟨b, eb, b1, b2⟩ := spec_l09Flip_ev a (6 * 255) (by omega) a1 a2
 obtain ⟨c, ec, c1, c2⟩ := spec_l09Rows_ev b (6 * 255) (by omega) b1 b2
 obtain ⟨d, ed, d1, d2⟩ := spec_l09Flip_ev c (6 * (6 * 255)) (by omega) c1 c2
 rw [l09All_yes p 16 1000 (by omega) (by omega) (by omega) (inB_mono hb (by omega)), bnd_s, Bool.not_true, sel_f, ea, bnd_s, eb, bnd_s, ec, bnd_s, ed, bnd_s]
 exact ⟨d, rfl, d1, d2⟩
theorem spec_FourBack_ev (p : List Int) (hl : p.length = 16) (hb : inB 10000000 p) : ∃ o, spec_FourBack p = some o ∧ o.length = 16 ∧ inB 10000000 o := by
 unfold spec_FourBack
 obtain ⟨a, ea, a1, a2⟩ := spec_l09Backs_ev p 10000000 (by omega) hl hb
 obtain ⟨b, eb, b1, b2⟩ := spec_l09Flip_ev a _ (by omega) a1 a2
 obtain ⟨c, ec, c1, c2⟩ := spec_l09Backs_ev b _ (by omega) b1 b2
 obtain ⟨d, ed, d1, d2⟩ := spec_l09Flip_ev c _ (by omega) c1 c2
 rw [l09All_yes p 16 10000000 (by omega) (by omega) (by omega) hb, bnd_s, Bool.not_true, sel_f, ea, bnd_s, eb, bnd_s, ec, bnd_s, ed, bnd_s]
 obtain ⟨r, er, r1, r2⟩ := map_loop (f := spec_FourBack_l2) 16 (fun x => -160000010 ≤ x ∧ x ≤ 160000010) (fun x => -10000000 ≤ x ∧ x ≤ 10000000) (by
  intro i l hi hll hx
  obtain ⟨d, ed, d1, d2⟩ := spec_l09Down_ev (l.getD i 0 + 32) 64 (by omega) (Or.inr rfl)
  unfold spec_FourBack_l2
  simp only [Int.toNat_natCast]
  rw [sel_yes (by omega), req_p (by omega), req_p (by omega), wk (e := l.getD i 0 + 32) (by omega) (by omega), ed, bnd_s, req_p (by omega), req_p (by omega), wk (e := (i : Int) + 1) (by omega) (by omega)]
  exact ⟨d, rfl, by omega, by omega⟩) (by intro s; unfold spec_FourBack_l2; rw [sel_no (by simp)]) d d1 (fun x hx => by have := d2 x hx; omega)
 exact ⟨r, (bnd_e er).trans rfl, r1, r2⟩
theorem spec_l08Sized_eq (x : Int) (h : -1000000000000 ≤ x ∧ x ≤ 1000000000000) : spec_l08Sized x = some (absI x) := by
 unfold spec_l08Sized absI
 by_cases hx : x < 0
 ·
  rw [sel_yes hx, if_pos hx, wk (by omega) (by omega)]; congr 1; omega
 ·
  rw [sel_no hx, if_neg hx]
theorem spec_l08Signed_ev (w x B : Int) (h : 0 ≤ x ∧ x ≤ B) (hB : B ≤ 1000000000) : ∃ o, spec_l08Signed w x = some o ∧ -B ≤ o ∧ o ≤ B := by
 unfold spec_l08Signed
 by_cases hx : w < 0
 ·
  rw [sel_yes hx, wk (by omega) (by omega)]; exact ⟨_, rfl, by omega, by omega⟩
 ·
  rw [sel_no hx]; exact ⟨_, rfl, by omega, by omega⟩
def shl15 (qp : Int) : Int := wrapK .i64 (1 * 2 ^ min (wrapK .u64 (wrapK .i64 (15 + (wrapK .i64 (qp.tdiv 6))))).toNat (IntKind.bits .i64))
theorem shl15_ok : ∀ q : Fin 41, (0 ≤ wrapK .u64 (wrapK .i64 (15 + (wrapK .i64 ((q.val : Int).tdiv 6)))) ∧ 32768 ≤ shl15 (q.val : Int) ∧ shl15 (q.val : Int) ≤ 2097152) := by decide +kernel
theorem spec_SmallLevel_ev (w qp p : Int) (hw : -9180 ≤ w ∧ w ≤ 9180) (h0 : 0 ≤ qp ∧ qp ≤ 40) (hp : 0 ≤ p ∧ p ≤ 15) : ∃ o, spec_SmallLevel w qp p = some o ∧ -5000 ≤ o ∧ o ≤ 5000 := by
 have hs := shl15_ok ⟨qp.toNat, by omega⟩
 simp only at hs
 rw [show ((qp.toNat : Nat) : Int) = qp by omega] at hs
 obtain ⟨s1, s2, s3⟩ := hs
 obtain ⟨s, es, q0, q1⟩ := spec_ShareOf_ev qp p h0 hp
 unfold spec_SmallLevel
 have en : wrapK .i64 (1 * 2 ^ min (wrapK .u64 (wrapK .i64 (15 + (wrapK .i64 (qp.tdiv 6))))).toNat (IntKind.bits .i64)) = shl15 qp := rfl
 rw [spec_l01In_eq, bnd_s, decide_eq_true (by omega), sel_t, spec_l01In_eq, bnd_s, decide_eq_true h0, sel_t, spec_l01In_eq, bnd_s, decide_eq_true hp, Bool.not_true, bnd_s, sel_f, req_p (by omega), req_p s1, spec_l08Sized_eq w (by omega), bnd_s, es, bnd_s, req_p (by omega), en]
 generalize shl15 qp = n at *
 have ha : 0 ≤ absI w ∧ absI w ≤ 9180 := by unfold absI; split <;> omega
 generalize absI w = a at *
 have hm : 0 ≤ a * s ∧ a * s ≤ 9180 * 13107 := ⟨Int.mul_nonneg ha.1 q0, Int.mul_le_mul ha.2 q1 q0 (by omega)⟩
 rw [req_p (by omega), wk (e := a * s) (by omega) (by omega), tdiv_pos (a := n) (by omega), wk (e := n / 3) (by omega) (by omega), wk (e := a * s + n / 3) (by omega) (by omega), tdiv_pos (by omega)]
 have d0 : 0 ≤ (a * s + n / 3) / n := Int.ediv_nonneg (by omega) (by omega)
 have d1 : (a * s + n / 3) / n < 5000 := Int.ediv_lt_of_lt_mul (by omega) (by omega)
 rw [wk (by omega) (by omega)]
 obtain ⟨o, eo, o1, o2⟩ := spec_l08Signed_ev w _ 5000 ⟨d0, by omega⟩ (by omega)
 rw [eo, bnd_s]
 exact ⟨o, rfl, o1, o2⟩
theorem spec_LargeLevel_ev (w qp : Int) (h0 : 0 ≤ qp ∧ qp ≤ 40) : ∃ o, spec_LargeLevel w qp = some o ∧ -5000 ≤ o ∧ o ≤ 5000 := by
 unfold spec_LargeLevel
 rw [spec_l01In_eq, bnd_s]
 by_cases hw : -20000 ≤ w ∧ w ≤ 20000
 ·
  obtain ⟨s, es, q0, q1⟩ := spec_StepOf_ev qp h0
  rw [decide_eq_true hw, sel_t, spec_l01In_eq, bnd_s, decide_eq_true h0, Bool.not_true, bnd_s, sel_f, es, bnd_s, spec_l08Sized_eq w (by omega), bnd_s]
  have ha : 0 ≤ absI w ∧ absI w ≤ 20000 := by unfold absI; split <;> omega
  generalize absI w = a at *
  rw [req_p (by omega), req_p (by omega), tdiv_pos (a := s) (by omega), wk (e := s / 2) (by omega) (by omega), wk (e := a + s / 2) (by omega) (by omega), tdiv_pos (by omega)]
  have d0 : 0 ≤ (a + s / 2) / s := Int.ediv_nonneg (by omega) (by omega)
  have d1 : (a + s / 2) / s < 5000 := Int.ediv_lt_of_lt_mul (by omega) (by omega)
  rw [wk (by omega) (by omega)]
  obtain ⟨o, eo, o1, o2⟩ := spec_l08Signed_ev w _ 5000 ⟨d0, by omega⟩ (by omega)
  rw [eo, bnd_s]
  exact ⟨o, rfl, o1, o2⟩
 ·
  rw [decide_eq_false hw, sel_f, bnd_s, sel_t]
  exact ⟨0, rfl, by omega, by omega⟩
theorem spec_SmallBack_ev (l qp p : Int) (hl : -5000 ≤ l ∧ l ≤ 5000) (h0 : 0 ≤ qp ∧ qp ≤ 40) (hp : 0 ≤ p ∧ p ≤ 15) : ∃ o, spec_SmallBack l qp p = some o ∧ -10000000 ≤ o ∧ o ≤ 10000000 := by
 unfold spec_SmallBack
 obtain ⟨s, es, q0, q1⟩ := spec_ScaleOf_ev qp p h0 hp
 rw [spec_l01In_eq, bnd_s, decide_eq_true hl, Bool.not_true, sel_f, es, bnd_s]
 have m1 : l * s ≤ 5000 * s := Int.mul_le_mul_of_nonneg_right hl.2 q0
 have m2 : -5000 * s ≤ l * s := Int.mul_le_mul_of_nonneg_right hl.1 q0
 rw [wk (by omega) (by omega)]
 exact ⟨_, rfl, by omega, by omega⟩
theorem spec_LargeBack_ev (l qp : Int) (hl : -5000 ≤ l ∧ l ≤ 5000) (h0 : 0 ≤ qp ∧ qp ≤ 40) : ∃ o, spec_LargeBack l qp = some o ∧ -5760000 ≤ o ∧ o ≤ 5760000 := by
 unfold spec_LargeBack
 obtain ⟨s, es, q0, q1⟩ := spec_StepOf_ev qp h0
 rw [spec_l01In_eq, bnd_s, decide_eq_true hl, Bool.not_true, sel_f, es, bnd_s]
 have m1 : l * s ≤ 5000 * s := Int.mul_le_mul_of_nonneg_right hl.2 (by omega)
 have m2 : -5000 * s ≤ l * s := Int.mul_le_mul_of_nonneg_right hl.1 (by omega)
 rw [wk (by omega) (by omega)]
 exact ⟨_, rfl, by omega, by omega⟩
theorem lv64_of {l : List Int} (h1 : l.length = 64) (h2 : inB 5000 l) : lv64 l = true := by
 unfold lv64
 rw [Bool.and_eq_true, decide_eq_true_eq, List.all_eq_true]
 exact ⟨h1, fun x hx => by unfold lvIn; rw [decide_eq_true_eq]; exact h2 x hx⟩
theorem lv64_in {l : List Int} (h : lv64 l = true) : l.length = 64 ∧ inB 5000 l := by
 obtain ⟨h1, h2⟩ := lv64_parts h
 refine ⟨h1, fun x hx => ?_⟩
 have := List.all_eq_true.1 h2 x hx
 unfold lvIn at this
 rwa [decide_eq_true_eq] at this
theorem condOk_qp {c : Cond} (h : condOk c = true) : 0 ≤ c.Qp ∧ c.Qp ≤ 40 := by
 unfold condOk at h
 rw [Bool.and_eq_true, decide_eq_true_eq] at h
 exact h.1
theorem spec_l14Quarter_ev (p : List Int) (k : Nat) (hk : k < 4) (B : Int) (hl : p.length = 64) (hb : inB B p) : ∃ o, spec_l14Quarter p k = some o ∧ o.length = 16 ∧ inB B o := by
 have hm : maxLen = 9223372036854775807 := rfl
 unfold spec_l14Quarter
 obtain ⟨o, e, h1, h2⟩ := st_loop (f := spec_l14Quarter_l2 p k) 16 (fun i s => s.length = i ∧ inB B s) (by
  intro i s hi ⟨g1, g2⟩
  have ha := inB_at hb (i := (8 * ((k : Int) / 2 * 4 + (i : Int) / 4) + (k : Int) % 2 * 4 + (i : Int) % 4).toNat) (by omega)
  unfold spec_l14Quarter_l2
  simp only
  rw [sel_yes (by omega), req_p (by omega), req_p (by omega), req_p (by omega), req_p (by omega), tdiv_pos (a := (k : Int)) (by omega), tdiv_pos (a := (i : Int)) (by omega), tmod_pos (a := (k : Int)) (by omega), tmod_pos (a := (i : Int)) (by omega), wk (e := (k : Int) / 2) (by omega) (by omega), wk (e := (k : Int) / 2 * 4) (by omega) (by omega), wk (e := (i : Int) / 4) (by omega) (by omega), wk (e := (k : Int) / 2 * 4 + (i : Int) / 4) (by omega) (by omega), wk (e := 8 * ((k : Int) / 2 * 4 + (i : Int) / 4)) (by omega) (by omega), wk (e := (k : Int) % 2 * 4) (by omega) (by omega), wk (e := 8 * ((k : Int) / 2 * 4 + (i : Int) / 4) + (k : Int) % 2 * 4) (by omega) (by omega), wk (e := 8 * ((k : Int) / 2 * 4 + (i : Int) / 4) + (k : Int) % 2 * 4 + (i : Int) % 4) (by omega) (by omega), req_p (by omega), req_p (by simp only [List.length_singleton]; omega), wk (e := (i : Int) + 1) (by omega) (by omega)]
  exact ⟨_, rfl, by simp; omega, inB_append g2 (inB_one ha)⟩) (by intro s; unfold spec_l14Quarter_l2; rw [sel_no (by simp)]) [] ⟨rfl, inB_nil _⟩
 exact ⟨o, (bnd_e e).trans rfl, h1, h2⟩
theorem spec_LevelsOf_ev (p : List Int) (c : Cond) (hc : condOk c = true) (hl : p.length = 64) (hb : inB 255 p) : ∃ o, spec_LevelsOf p c = some (o, true) ∧ lv64 o = true := by
 have hm : maxLen = 9223372036854775807 := rfl
 have hq := condOk_qp hc
 unfold spec_LevelsOf
 rw [spec_CondOk_eq, bnd_s, hc, sel_t, l09All_yes p 64 255 (by omega) (by omega) (by omega) hb, bnd_s, Bool.not_true, bnd_s, sel_f]
 cases hE : c.Exact with
 | true =>
  obtain ⟨o, e, h1, h2⟩ := spec_Scanned_ev 8 (Or.inr rfl) p 255 (by omega) hb
  rw [sel_t, e, bnd_s]
  exact ⟨o, rfl, lv64_of (by omega) (inB_mono h2 (by omega))⟩
 | false =>
  rw [sel_f]
  cases hL : c.Large with
  | true =>
   obtain ⟨w, ew, w1⟩ := spec_Eight_ev p hl hb
   obtain ⟨l, el, l1, l2⟩ := map_loop (f := spec_LevelsOf_l4 c) 64 (fun _ => True) (fun x => -5000 ≤ x ∧ x ≤ 5000) (by
    intro i l hi hll _
    obtain ⟨d, ed, d1, d2⟩ := spec_LargeLevel_ev (l.getD i 0) c.Qp hq
    unfold spec_LevelsOf_l4
    simp only [Int.toNat_natCast]
    rw [sel_yes (by omega), req_p (by omega), req_p (by omega), ed, bnd_s, req_p (by omega), req_p (by omega), wk (e := (i : Int) + 1) (by omega) (by omega)]
    exact ⟨d, rfl, d1, d2⟩) (by intro s; unfold spec_LevelsOf_l4; rw [sel_no (by simp)]) w w1 (fun _ _ => trivial)
   obtain ⟨o, e, h1, h2⟩ := spec_Scanned_ev 8 (Or.inr rfl) l 5000 (by omega) l2
   rw [sel_t, ew, bnd_s, el, bnd_s, e, bnd_s]
   exact ⟨o, rfl, lv64_of (by omega) h2⟩
  | false =>
   obtain ⟨o, eo, o1, o2⟩ := st_loop (f := spec_LevelsOf_l26 p c) 4 (fun k s => s.length = 16 * k ∧ inB 5000 s) (by
    intro k s hk ⟨g1, g2⟩
    obtain ⟨a, ea, a1, a2⟩ := spec_l14Quarter_ev p k hk 255 hl hb
    obtain ⟨b, eb, b1, b2⟩ := spec_Four_ev a a1 a2
    obtain ⟨l, el, l1, l2⟩ := map_loop (f := spec_LevelsOf_l30 c) 16 (fun x => -9180 ≤ x ∧ x ≤ 9180) (fun x => -5000 ≤ x ∧ x ≤ 5000) (by
     intro i l hi hll hx
     obtain ⟨d, ed, d1, d2⟩ := spec_SmallLevel_ev (l.getD i 0) c.Qp i hx hq (by omega)
     unfold spec_LevelsOf_l30
     simp only [Int.toNat_natCast]
     rw [sel_yes (by omega), req_p (by omega), req_p (by omega), ed, bnd_s, req_p (by omega), req_p (by omega), wk (e := (i : Int) + 1) (by omega) (by omega)]
     exact ⟨d, rfl, d1, d2⟩) (by intro s; unfold spec_LevelsOf_l30; rw [sel_no (by simp)]) b b1 b2
    obtain ⟨r, er, r1, r2⟩ := spec_Scanned_ev 4 (Or.inl rfl) l 5000 (by omega) l2
    unfold spec_LevelsOf_l26
    simp only
    rw [sel_yes (by omega), ea, bnd_s, eb, bnd_s, el, bnd_s, er, bnd_s]
    simp only
    rw [req_p (by omega), wk (e := (k : Int) + 1) (by omega) (by omega)]
    exact ⟨_, rfl, by rw [List.length_append]; omega, inB_append g2 r2⟩) (by intro s; unfold spec_LevelsOf_l26; rw [sel_no (by simp)]) [] ⟨rfl, inB_nil _⟩
   rw [sel_f, eo, bnd_s]
   exact ⟨o, rfl, lv64_of (by omega) o2⟩
theorem spec_LevelsBack_ev (p : List Int) (c : Cond) (hc : condOk c = true) (hp : lv64 p = true) : ∃ o, spec_LevelsBack p c = some (o, true) ∧ o.length = 64 ∧ inB 10000000 o := by
 have hm : maxLen = 9223372036854775807 := rfl
 have hq := condOk_qp hc
 obtain ⟨hl, hb⟩ := lv64_in hp
 unfold spec_LevelsBack
 rw [spec_CondOk_eq, bnd_s, hc, sel_t, l09All_yes p 64 5000 (by omega) (by omega) (by omega) hb, bnd_s, Bool.not_true, bnd_s, sel_f]
 cases hE : c.Exact with
 | true =>
  obtain ⟨o, e, h1, h2⟩ := spec_Unscanned_ev 8 (Or.inr rfl) p 5000 (by omega) (by omega) hb
  rw [sel_t, e, bnd_s]
  exact ⟨o, rfl, by omega, inB_mono h2 (by omega)⟩
 | false =>
  rw [sel_f]
  cases hL : c.Large with
  | true =>
   obtain ⟨w, ew, w1, w2⟩ := spec_Unscanned_ev 8 (Or.inr rfl) p 5000 (by omega) (by omega) hb
   obtain ⟨l, el, l1, l2⟩ := map_loop (f := spec_LevelsBack_l4 c) 64 (fun x => -5000 ≤ x ∧ x ≤ 5000) (fun x => -5760000 ≤ x ∧ x ≤ 5760000) (by
    intro i l hi hll hx
    obtain ⟨d, ed, d1, d2⟩ := spec_LargeBack_ev (l.getD i 0) c.Qp hx hq
    unfold spec_LevelsBack_l4
    simp only [Int.toNat_natCast]
    rw [sel_yes (by omega), req_p (by omega), req_p (by omega), ed, bnd_s, req_p (by omega), req_p (by omega), wk (e := (i : Int) + 1) (by omega) (by omega)]
    exact ⟨d, rfl, d1, d2⟩) (by intro s; unfold spec_LevelsBack_l4; rw [sel_no (by simp)]) w (by omega) w2
   obtain ⟨o, e, h1, h2⟩ := spec_EightBack_ev l l1 l2
   rw [sel_t, ew, bnd_s, el, bnd_s, e, bnd_s]
   exact ⟨o, rfl, h1, h2⟩
  | false =>
   obtain ⟨o, eo, o1, o2⟩ := st_loop (f := spec_LevelsBack_l36 p c) 4 (fun k s => s.length = 64 ∧ inB 10000000 s) (by
    intro k s hk ⟨g1, g2⟩
    have hcut : ((p.drop (16 * k)).take 16).length = 16 := by rw [List.length_take, List.length_drop]; omega
    obtain ⟨a, ea, a1, a2⟩ := spec_Unscanned_ev 4 (Or.inl rfl) ((p.drop (16 * k)).take 16) 5000 (by omega) (by omega) (inB_take (inB_drop hb _) _)
    obtain ⟨l, el, l1, l2⟩ := map_loop (f := spec_LevelsBack_l41 c) 16 (fun x => -5000 ≤ x ∧ x ≤ 5000) (fun x => -10000000 ≤ x ∧ x ≤ 10000000) (by
     intro i l hi hll hx
     obtain ⟨d, ed, d1, d2⟩ := spec_SmallBack_ev (l.getD i 0) c.Qp i hx hq (by omega)
     unfold spec_LevelsBack_l41
     simp only [Int.toNat_natCast]
     rw [sel_yes (by omega), req_p (by omega), req_p (by omega), ed, bnd_s, req_p (by omega), req_p (by omega), wk (e := (i : Int) + 1) (by omega) (by omega)]
     exact ⟨d, rfl, d1, d2⟩) (by intro s; unfold spec_LevelsBack_l41; rw [sel_no (by simp)]) a (by omega) a2
    obtain ⟨b, eb, b1, b2⟩ := spec_FourBack_ev l l1 l2
    obtain ⟨r, er, r1, r2⟩ := st_loop (f := spec_LevelsBack_l42 ((k : Int), s) b) 16 (fun i s => s.length = 64 ∧ inB 10000000 s) (by
     intro i s hi ⟨g1, g2⟩
     have ha := inB_at b2 (i := i) (by omega)
     unfold spec_LevelsBack_l42
     simp only
     rw [sel_yes (by omega), req_p (by omega), req_p (by omega), req_p (by omega), req_p (by omega), req_p (by omega), req_p (by omega), tdiv_pos (a := (k : Int)) (by omega), tdiv_pos (a := (i : Int)) (by omega), tmod_pos (a := (k : Int)) (by omega), tmod_pos (a := (i : Int)) (by omega), wk (e := (k : Int) / 2) (by omega) (by omega), wk (e := (k : Int) / 2 * 4) (by omega) (by omega), wk (e := (i : Int) / 4) (by omega) (by omega), wk (e := (k : Int) / 2 * 4 + (i : Int) / 4) (by omega) (by omega), wk (e := 8 * ((k : Int) / 2 * 4 + (i : Int) / 4)) (by omega) (by omega), wk (e := (k : Int) % 2 * 4) (by omega) (by omega), wk (e := 8 * ((k : Int) / 2 * 4 + (i : Int) / 4) + (k : Int) % 2 * 4) (by omega) (by omega), wk (e := 8 * ((k : Int) / 2 * 4 + (i : Int) / 4) + (k : Int) % 2 * 4 + (i : Int) % 4) (by omega) (by omega), req_p (by omega), req_p (by omega), wk (e := (i : Int) + 1) (by omega) (by omega), Int.toNat_natCast]
     exact ⟨_, rfl, by rw [List.length_set]; exact g1, inB_set g2 _ ha⟩) (by intro s; unfold spec_LevelsBack_l42; rw [sel_no (by simp)]) s ⟨g1, g2⟩
    unfold spec_LevelsBack_l36
    simp only
    rw [sel_yes (by omega), wk (e := 16 * (k : Int)) (by omega) (by omega), wk (e := 16 * (k : Int) + 16) (by omega) (by omega), req_p (by omega), show (16 * (k : Int)).toNat = 16 * k by omega, show (16 * (k : Int) + 16).toNat - 16 * k = 16 by omega, ea, bnd_s, el, bnd_s, eb, bnd_s, er, bnd_s, wk (e := (k : Int) + 1) (by omega) (by omega)]
    exact ⟨_, rfl, r1, r2⟩) (by intro s; unfold spec_LevelsBack_l36; rw [sel_no (by simp)]) (List.replicate (64 : Int).toNat 0) ⟨by simp, inB_rep _ (by omega)⟩
   rw [sel_f, req_p (by omega), eo, bnd_s]
   exact ⟨o, rfl, o1, o2⟩
theorem spec_l13Dots_yes (l : List Int) (h : dots64 l = true) : spec_l13Dots l = some true := by
 obtain ⟨h1, h2⟩ := dots64_at h
 unfold spec_l13Dots
 rw [sel_neg (by simp only [bne_eq_false_iff_eq]; omega), self_loop l.length (f := spec_l13Dots_l2 l) (by
  intro i hi
  have := h2 i (by omega)
  unfold spec_l13Dots_l2
  rw [sel_yes (by omega), req_p (by omega), spec_l01In_eq, bnd_s, Int.toNat_natCast, decide_eq_true this, Bool.not_true, sel_f, wk (by omega) (by omega)]
  rfl) (by unfold spec_l13Dots_l2; rw [sel_no (by omega)]), bnd_s]
theorem dots64_of {l : List Int} (h1 : l.length = 64) (h2 : ∀ x ∈ l, 0 ≤ x ∧ x ≤ 255) : dots64 l = true := by
 unfold dots64
 rw [Bool.and_eq_true, decide_eq_true_eq, List.all_eq_true]
 exact ⟨h1, fun x hx => by unfold dotIn; rw [decide_eq_true_eq]; exact h2 x hx⟩
theorem spec_Joined_ev (g b : List Int) (hg : dots64 g = true) (hl : b.length = 64) (hb : inB 10000000 b) : ∃ o, spec_Joined g b = some o ∧ dots64 o = true := by
 have hm : maxLen = 9223372036854775807 := rfl
 obtain ⟨g1, g2⟩ := dots64_at hg
 unfold spec_Joined
 rw [spec_l13Dots_yes g hg, bnd_s, sel_t, l09All_yes b 64 10000000 (by omega) (by omega) (by omega) hb, bnd_s, Bool.not_true, bnd_s, sel_f]
 obtain ⟨o, e, h1, h2⟩ := st_loop (f := spec_Joined_l2 g b) 64 (fun i s => s.length = i ∧ ∀ x ∈ s, 0 ≤ x ∧ x ≤ 255) (by
  intro i s hi ⟨k1, k2⟩
  have ha := inB_at hb (i := i) (by omega)
  have hd := g2 i hi
  have br := brought_in (n := g.getD i 0 + b.getD i 0) (a := 0) (b := 255) (by omega)
  unfold spec_Joined_l2
  simp only [Int.toNat_natCast]
  rw [sel_yes (by omega), req_p (by omega), req_p (by omega), wk (e := g.getD i 0 + b.getD i 0) (by omega) (by omega), spec_Brought_eq, bnd_s, req_p (by simp only [List.length_singleton]; omega), wk (e := (i : Int) + 1) (by omega) (by omega)]
  refine ⟨_, rfl, by simp; omega, fun x hx => ?_⟩
  rcases List.mem_append.1 hx with hx | hx
  ·
   exact k2 x hx
  ·
   rw [List.mem_singleton.1 hx]; exact br) (by intro s; unfold spec_Joined_l2; rw [sel_no (by simp)]) [] ⟨rfl, fun x hx => by simp at hx⟩
 exact ⟨o, (bnd_e e).trans rfl, dots64_of h1 h2⟩
theorem spec_l17Less_ev (a b : List Int) (ha : dots64 a = true) (hb : dots64 b = true) : ∃ o, spec_l17Less a b = some o ∧ o.length = 64 ∧ inB 255 o := by
 have hm : maxLen = 9223372036854775807 := rfl
 obtain ⟨a1, a2⟩ := dots64_at ha
 obtain ⟨b1, b2⟩ := dots64_at hb
 unfold spec_l17Less
 obtain ⟨o, e, h1, h2⟩ := st_loop (f := spec_l17Less_l2 a b) 64 (fun i s => s.length = i ∧ inB 255 s) (by
  intro i s hi ⟨k1, k2⟩
  have x := a2 i hi
  have y := b2 i hi
  unfold spec_l17Less_l2
  simp only [Int.toNat_natCast]
  rw [sel_yes (by omega), req_p (by omega), req_p (by omega), wk (e := a.getD i 0 - b.getD i 0) (by omega) (by omega), req_p (by simp only [List.length_singleton]; omega), wk (e := (i : Int) + 1) (by omega) (by omega)]
  exact ⟨_, rfl, by simp; omega, inB_append k2 (inB_one (by omega))⟩) (by intro s; unfold spec_l17Less_l2; rw [sel_no (by simp)]) [] ⟨rfl, inB_nil _⟩
 exact ⟨o, (bnd_e e).trans rfl, h1, h2⟩
theorem spec_l17Zero_ev (l : List Int) (hl : l.length ≤ 1000000) : ∃ b, spec_l17Zero l = some b := by
 unfold spec_l17Zero
 have key : ∀ i : Nat, i ≤ l.length → ∃ o, loop (spec_l17Zero_l2 l) (i : Int) = some o := by
  refine down_to _ ?_ ?_
  ·
   exact ⟨_, ldone (by unfold spec_l17Zero_l2; rw [sel_no (by omega)])⟩
  ·
   intro i hi ⟨o, ih⟩
   cases h : (l.getD i 0 != 0) with
   | true => exact ⟨_, ldone (by unfold spec_l17Zero_l2; rw [sel_yes (by omega), req_p (by omega), Int.toNat_natCast, h, sel_t])⟩
   | false => exact ⟨o, lgo (by unfold spec_l17Zero_l2; rw [sel_yes (by omega), req_p (by omega), Int.toNat_natCast, h, sel_f, wk (by omega) (by omega)]; rfl) ih⟩
 obtain ⟨o, e⟩ := key 0 (by omega)
 cases o with
 | out u => exact ⟨true, (bnd_e e).trans rfl⟩
 | ret r => exact ⟨r, (bnd_e e).trans rfl⟩
def edgesP (e : Edges) : Prop := (e.Above.length = 0 ∨ e.Above.length = 8) ∧ (e.Left.length = 0 ∨ e.Left.length = 8) ∧ (∀ x ∈ e.Above, 0 ≤ x ∧ x ≤ 255) ∧ (∀ x ∈ e.Left, 0 ≤ x ∧ x ≤ 255) ∧ -1 ≤ e.Corner ∧ e.Corner ≤ 255
theorem spec_l12Within_8 {p : Pic} (ok : picOk p = true) (x y : Int) : spec_l12Within p x y 8 8 = some (heldAt p x y) := by
 obtain ⟨k1, k2, k3⟩ := picOk_parts ok
 unfold spec_l12Within heldAt
 rw [spec_PicOk_eq, bnd_s, ok, sel_t, spec_l01In_eq, bnd_s, spec_l01In_eq, bnd_s, wk (e := p.Wide - 8) (by omega) (by omega), wk (e := p.High - 8) (by omega) (by omega), spec_l01In_eq, bnd_s, spec_l01In_eq, bnd_s]
 simp only [sel_and, bnd_s]
 congr 1
 rw [Bool.eq_iff_iff]
 simp only [Bool.and_eq_true, decide_eq_true_eq]
 omega
theorem spec_l13Fits_yes {p : Pic} (ok : picOk p = true) {x y : Int} (hx : x.tmod 8 = 0) (hy : y.tmod 8 = 0) (h : heldAt p x y = true) : spec_l13Fits p x y = some true := by
 unfold spec_l13Fits
 rw [req_p (by omega), hx, req_p (by omega), hy, spec_l12Within_8 ok, bnd_s, h]
 rfl
theorem spec_EdgesOf_ev {p : Pic} (ok : picOk p = true) {x y : Int} (hx : x.tmod 8 = 0) (hy : y.tmod 8 = 0) (h : heldAt p x y = true) : ∃ e, spec_EdgesOf p x y = some (e, true) ∧ edgesP e := by
 have hm : maxLen = 9223372036854775807 := rfl
 obtain ⟨k1, k2, k3⟩ := picOk_parts ok
 have h' := h
 unfold heldAt at h'
 rw [decide_eq_true_eq] at h'
 unfold spec_EdgesOf
 rw [spec_l13Fits_yes ok hx hy h, bnd_s, Bool.not_true, sel_f]
 obtain ⟨o, e, o1, o2, o3, o4, o5, o6⟩ := st_loop (f := spec_EdgesOf_l2 p x y) 8 (fun i s => (y > 0 → s.1.length = i) ∧ (¬ y > 0 → s.1.length = 0) ∧ (x > 0 → s.2.length = i) ∧ (¬ x > 0 → s.2.length = 0) ∧ (∀ z ∈ s.1, 0 ≤ z ∧ z ≤ 255) ∧ (∀ z ∈ s.2, 0 ≤ z ∧ z ≤ 255)) (by
  intro i s hi ⟨g1, g2, g3, g4, g5, g6⟩
  obtain ⟨a, b⟩ := s
  simp only at g1 g2 g3 g4 g5 g6
  have d1 := dotAt_range p (x + i) (y - 1)
  have d2 := dotAt_range p (x - 1) (y + i)
  have st1 : ∃ a', (sel (decide (y > 0)) (bnd (spec_DotAt p (wrapK .i64 (x + (i : Int))) (wrapK .i64 (y - 1))) fun q16 => req ((a.length + ([q16]).length) * 8 ≤ 140737488355328 ∧ a.length + ([q16]).length ≤ maxLen) <| some (a ++ ([q16]))) (some a)) = some a' ∧ (y > 0 → a'.length = i + 1) ∧ (¬ y > 0 → a'.length = 0) ∧ (∀ z ∈ a', 0 ≤ z ∧ z ≤ 255) := by
   by_cases c : y > 0
   ·
    rw [sel_yes c, wk (e := x + (i : Int)) (by omega) (by omega), wk (e := y - 1) (by omega) (by omega), spec_DotAt_eq ok, bnd_s, req_p (by simp only [List.length_singleton]; have := g1 c; omega)]
    refine ⟨_, rfl, fun _ => by simp; exact g1 c, fun hn => absurd c hn, fun z hz => ?_⟩
    rcases List.mem_append.1 hz with hz | hz
    ·
     exact g5 z hz
    ·
     rw [List.mem_singleton.1 hz]; exact d1
   ·
    rw [sel_no c]
    exact ⟨_, rfl, fun hn => absurd hn c, fun _ => g2 c, g5⟩
  obtain ⟨a', ea, a1, a2, a3⟩ := st1
  have st2 : ∃ b', (sel (decide (x > 0)) (bnd (spec_DotAt p (wrapK .i64 (x - 1)) (wrapK .i64 (y + (i : Int)))) fun q17 => req ((b.length + ([q17]).length) * 8 ≤ 140737488355328 ∧ b.length + ([q17]).length ≤ maxLen) <| some (a', (b ++ ([q17])))) (some (a', b))) = some (a', b') ∧ (x > 0 → b'.length = i + 1) ∧ (¬ x > 0 → b'.length = 0) ∧ (∀ z ∈ b', 0 ≤ z ∧ z ≤ 255) := by
   by_cases c : x > 0
   ·
    rw [sel_yes c, wk (e := y + (i : Int)) (by omega) (by omega), wk (e := x - 1) (by omega) (by omega), spec_DotAt_eq ok, bnd_s, req_p (by simp only [List.length_singleton]; have := g3 c; omega)]
    refine ⟨_, rfl, fun _ => by simp; exact g3 c, fun hn => absurd c hn, fun z hz => ?_⟩
    rcases List.mem_append.1 hz with hz | hz
    ·
     exact g6 z hz
    ·
     rw [List.mem_singleton.1 hz]; exact d2
   ·
    rw [sel_no c]
    exact ⟨_, rfl, fun hn => absurd hn c, fun _ => g4 c, g6⟩
  obtain ⟨b', eb, b1, b2, b3⟩ := st2
  unfold spec_EdgesOf_l2
  simp only
  rw [sel_yes (by omega), ea, bnd_s, eb, bnd_s, wk (e := (i : Int) + 1) (by omega) (by omega)]
  exact ⟨(a', b'), rfl, a1, a2, b1, b2, a3, b3⟩) (by intro s; unfold spec_EdgesOf_l2; rw [sel_no (by simp)]) ([], []) ⟨fun _ => rfl, fun _ => rfl, fun _ => rfl, fun _ => rfl, fun z hz => by simp at hz, fun z hz => by simp at hz⟩
 rw [e, bnd_s, sel_and, bnd_s]
 have d3 := dotAt_range p (x - 1) (y - 1)
 have ha : o.1.length = 0 ∨ o.1.length = 8 := by
  by_cases c : y > 0
  ·
   exact Or.inr (o1 c)
  ·
   exact Or.inl (o2 c)
 have hb : o.2.length = 0 ∨ o.2.length = 8 := by
  by_cases c : x > 0
  ·
   exact Or.inr (o3 c)
  ·
   exact Or.inl (o4 c)
 cases hc : (decide (x > 0) && decide (y > 0)) with
 | true =>
  rw [sel_t, wk (e := x - 1) (by omega) (by omega), wk (e := y - 1) (by omega) (by omega), spec_DotAt_eq ok, bnd_s, bnd_s]
  exact ⟨_, rfl, ha, hb, o5, o6, by simp only; omega, by simp only; omega⟩
 | false =>
  rw [sel_f, bnd_s]
  exact ⟨_, rfl, ha, hb, o5, o6, by simp only; omega, by simp only; omega⟩
theorem spec_l13Side_yes (l : List Int) (hl : l.length = 0 ∨ l.length = 8) (h : ∀ x ∈ l, 0 ≤ x ∧ x ≤ 255) : spec_l13Side l = some true := by
 unfold spec_l13Side
 have hc : (sel ((l.length : Int) != 0) (some ((l.length : Int) != 8)) (some false)) = some false := by
  rcases hl with e | e
  ·
   rw [e]; rfl
  ·
   rw [e]; rfl
 rw [hc, bnd_s, sel_f, self_loop l.length (f := spec_l13Side_l2 l) (by
  intro i hi
  have := h (l.getD i 0) (by rw [getD_at l i hi]; exact List.getElem_mem _)
  unfold spec_l13Side_l2
  rw [sel_yes (by omega), req_p (by omega), spec_l01In_eq, bnd_s, Int.toNat_natCast, decide_eq_true this, Bool.not_true, sel_f, wk (by omega) (by omega)]
  rfl) (by unfold spec_l13Side_l2; rw [sel_no (by omega)]), bnd_s]
theorem spec_EdgesOk_yes {e : Edges} (h : edgesP e) : spec_EdgesOk e = some true := by
 obtain ⟨h1, h2, h3, h4, h5, h6⟩ := h
 unfold spec_EdgesOk
 rw [spec_l13Side_yes _ h1 h3, bnd_s, sel_t, spec_l13Side_yes _ h2 h4, bnd_s, sel_t, spec_l01In_eq, bnd_s, decide_eq_true ⟨h5, h6⟩, bnd_s]
theorem spec_l13Filled_ev (l : List Int) (k : Nat) (hk : k < 8) (hl : l.length = 0 ∨ l.length = 8) (h : ∀ x ∈ l, 0 ≤ x ∧ x ≤ 255) : ∃ x, spec_l13Filled l k = some x ∧ 0 ≤ x ∧ x ≤ 255 := by
 unfold spec_l13Filled
 rcases hl with e | e
 ·
  rw [sel_pos (by rw [e]; rfl)]; exact ⟨_, rfl, by omega, by omega⟩
 ·
  rw [sel_neg (by rw [e]; rfl), req_p (by omega), Int.toNat_natCast]
  exact ⟨_, rfl, h _ (by rw [getD_at l k (by omega)]; exact List.getElem_mem _)⟩
theorem spec_l13Mid_ev {e : Edges} (h : edgesP e) : ∃ x, spec_l13Mid e = some x ∧ 0 ≤ x ∧ x ≤ 255 := by
 obtain ⟨h1, h2, h3, h4, _, _⟩ := h
 unfold spec_l13Mid
 rw [wk (e := (e.Above.length : Int) + (e.Left.length : Int)) (by omega) (by omega)]
 by_cases hz : (e.Above.length : Int) + (e.Left.length : Int) = 0
 ·
  rw [sel_pos (by simpa using hz)]; exact ⟨_, rfl, by omega, by omega⟩
 ·
  rw [sel_neg (by simpa using hz), req_p (by omega), tdiv_pos (by omega), wk (e := ((e.Above.length : Int) + (e.Left.length : Int)) / 2) (by omega) (by omega)]
  obtain ⟨a, ea, a1, a2⟩ := acc_loop (f := spec_l13Mid_l2 e) e.Above.length (fun i s => 0 ≤ s ∧ s ≤ ((e.Above.length : Int) + (e.Left.length : Int)) / 2 + 255 * i) (by
   intro i s hi ⟨g1, g2⟩
   have := h3 (e.Above.getD i 0) (by rw [getD_at _ i hi]; exact List.getElem_mem _)
   unfold spec_l13Mid_l2
   simp only [Int.toNat_natCast]
   rw [sel_yes (by omega), req_p (by omega), wk (e := s + e.Above.getD i 0) (by omega) (by omega), wk (e := (i : Int) + 1) (by omega) (by omega)]
   exact ⟨_, rfl, by omega, by omega⟩) (by intro s; unfold spec_l13Mid_l2; rw [sel_no (by simp)]) (((e.Above.length : Int) + (e.Left.length : Int)) / 2) ⟨by omega, by omega⟩
  obtain ⟨b, eb, b1, b2⟩ := acc_loop (f := spec_l13Mid_l4 e) e.Left.length (fun i s => 0 ≤ s ∧ s ≤ ((e.Above.length : Int) + (e.Left.length : Int)) / 2 + 255 * e.Above.length + 255 * i) (by
   intro i s hi ⟨g1, g2⟩
   have := h4 (e.Left.getD i 0) (by rw [getD_at _ i hi]; exact List.getElem_mem _)
   unfold spec_l13Mid_l4
   simp only [Int.toNat_natCast]
   rw [sel_yes (by omega), req_p (by omega), wk (e := s + e.Left.getD i 0) (by omega) (by omega), wk (e := (i : Int) + 1) (by omega) (by omega)]
   exact ⟨_, rfl, by omega, by omega⟩) (by intro s; unfold spec_l13Mid_l4; rw [sel_no (by simp)]) a ⟨by omega, by omega⟩
  rw [ea, bnd_s, eb, bnd_s, req_p hz, tdiv_pos b1]
  have hn : (e.Above.length : Int) + (e.Left.length : Int) = 8 ∨ (e.Above.length : Int) + (e.Left.length : Int) = 16 := by omega
  have hr : 0 ≤ b / ((e.Above.length : Int) + (e.Left.length : Int)) ∧ b / ((e.Above.length : Int) + (e.Left.length : Int)) ≤ 255 := by
   rcases hn with hn | hn <;> rw [hn] <;> omega
  rw [wk (by omega) (by omega)]
  exact ⟨_, rfl, hr⟩
theorem spec_GuessOf_ev (m : Int) (hm0 : 0 ≤ m ∧ m ≤ 3) {e : Edges} (h : edgesP e) : ∃ g, spec_GuessOf m e = some g ∧ dots64 g = true := by
 have hm : maxLen = 9223372036854775807 := rfl
 have h' := h
 obtain ⟨h1, h2, h3, h4, h5, h6⟩ := h'
 obtain ⟨mid, em, m1, m2⟩ := spec_l13Mid_ev h
 unfold spec_GuessOf
 rw [spec_EdgesOk_yes h, bnd_s, sel_t, spec_l01In_eq, bnd_s, decide_eq_true hm0, Bool.not_true, bnd_s, sel_f]
 have hc : ∃ v, sel (decide (e.Corner < 0)) (some (128 : Int)) (some e.Corner) = some v ∧ 0 ≤ v ∧ v ≤ 255 := by
  by_cases c : e.Corner < 0
  ·
   rw [sel_yes c]; exact ⟨_, rfl, by omega, by omega⟩
  ·
   rw [sel_no c]; exact ⟨_, rfl, by omega, by omega⟩
 obtain ⟨v, ev, v1, v2⟩ := hc
 rw [ev, bnd_s]
 obtain ⟨o, eo, o1, o2⟩ := st_loop (f := spec_GuessOf_l2 m e v) 64 (fun i s => s.length = i ∧ ∀ x ∈ s, 0 ≤ x ∧ x ≤ 255) (by
  intro i s hi ⟨g1, g2⟩
  obtain ⟨a, ea, a1, a2⟩ := spec_l13Filled_ev e.Above (i % 8) (by omega) h1 h3
  obtain ⟨b, eb, b1, b2⟩ := spec_l13Filled_ev e.Left (i / 8) (by omega) h2 h4
  have br := brought_in (n := b + a - v) (a := 0) (b := 255) (by omega)
  have put : ∀ z : Int, 0 ≤ z ∧ z ≤ 255 → (s ++ [z]).length = i + 1 ∧ ∀ x ∈ s ++ [z], 0 ≤ x ∧ x ≤ 255 := by
   intro z hz
   refine ⟨by simp; omega, fun x hx => ?_⟩
   rcases List.mem_append.1 hx with hx | hx
   ·
    exact g2 x hx
   ·
    rw [List.mem_singleton.1 hx]; exact hz
  unfold spec_GuessOf_l2
  simp only
  rw [sel_yes (by omega), req_p (by omega), tmod_pos (by omega), show (i : Int) % 8 = ((i % 8 : Nat) : Int) by omega, ea, bnd_s, req_p (by omega), tdiv_pos (by omega), wk (e := (i : Int) / 8) (by omega) (by omega), show (i : Int) / 8 = ((i / 8 : Nat) : Int) by omega, eb, bnd_s, wk (e := (i : Int) + 1) (by omega) (by omega), em]
  cases (m == 0) with
  | true =>
   rw [sel_t, bnd_s, req_p (by simp only [List.length_singleton]; omega), bnd_s]
   exact ⟨_, rfl, put _ ⟨m1, m2⟩⟩
  | false =>
   rw [sel_f]
   cases (m == 1) with
   | true =>
    rw [sel_t, req_p (by simp only [List.length_singleton]; omega), bnd_s]
    exact ⟨_, rfl, put _ ⟨a1, a2⟩⟩
   | false =>
    rw [sel_f]
    cases (m == 2) with
    | true =>
     rw [sel_t, req_p (by simp only [List.length_singleton]; omega), bnd_s]
     exact ⟨_, rfl, put _ ⟨b1, b2⟩⟩
    | false =>
     rw [sel_f, wk (e := b + a) (by omega) (by omega), wk (e := b + a - v) (by omega) (by omega), spec_Brought_eq, bnd_s, req_p (by simp only [List.length_singleton]; omega), bnd_s]
     exact ⟨_, rfl, put _ br⟩) (by intro s; unfold spec_GuessOf_l2; rw [sel_no (by simp)]) [] ⟨rfl, fun x hx => by simp at hx⟩
 exact ⟨o, (bnd_e eo).trans rfl, dots64_of o1 o2⟩
theorem inB_dots {l : List Int} (h : dots64 l = true) : l.length = 64 ∧ inB 1000 l := by
 simp only [dots64, Bool.and_eq_true, decide_eq_true_eq] at h
 refine ⟨h.1, fun x hx => ?_⟩
 have := List.all_eq_true.1 h.2 x hx
 simp only [dotIn, decide_eq_true_eq] at this
 omega
theorem spec_GapOf_eq {a b : List Int} (ha : dots64 a = true) (hb : dots64 b = true) : spec_GapOf a b = some (gapTo a b 64) := by
 have la := inB_dots ha
 have lb := inB_dots hb
 unfold spec_GapOf
 rw [l09All_yes a 64 1000 (by omega) (by omega) (by omega) la.2, bnd_s, sel_t, l09All_yes b 64 1000 (by omega) (by omega) (by omega) lb.2, bnd_s, Bool.not_true, bnd_s, sel_f]
 have key : ∀ i : Nat, i ≤ 64 → loop (spec_GapOf_l2 a b) (gapTo a b i, (i : Int)) = some (gapTo a b 64) := by
  refine down_to _ ?_ ?_
  ·
   exact ldone (by unfold spec_GapOf_l2; rw [sel_no (by simp)])
  ·
   intro i hi ih
   refine lgo (y := (gapTo a b (i + 1), ((i + 1 : Nat) : Int))) ?_ ih
   have p := (dots64_at ha).2 i hi
   have q := (dots64_at hb).2 i hi
   have g := gapTo_bounds ha hb i (by omega)
   have ab : 0 ≤ absI (a.getD i 0 - b.getD i 0) ∧ absI (a.getD i 0 - b.getD i 0) ≤ 255 := by unfold absI; split <;> omega
   unfold spec_GapOf_l2
   simp only [Int.toNat_natCast]
   rw [sel_yes (by omega), req_p (by omega), req_p (by omega), wk (e := a.getD i 0 - b.getD i 0) (by omega) (by omega), spec_l08Sized_eq _ (by omega), bnd_s, wk (e := gapTo a b i + absI (a.getD i 0 - b.getD i 0)) (by omega) (by omega), wk (e := (i : Int) + 1) (by omega) (by omega)]
   rfl
 exact (bnd_e (key 0 (by omega))).trans rfl
theorem spec_UeSize_ev (m : Int) (h : 0 ≤ m ∧ m ≤ 3) : ∃ s, spec_UeSize m = some s ∧ 0 ≤ s ∧ s ≤ 39 := by
 have := ueL_len m.toNat (by omega)
 unfold spec_UeSize spec_UeRow
 rw [spec_l01In_eq, bnd_s, decide_eq_true (by omega), Bool.not_true, sel_f, show m = ((m.toNat : Nat) : Int) by omega, spec_l03Ue_eq _ (by omega), bnd_s, bnd_s]
 refine ⟨_, rfl, ?_⟩
 rw [strOfNums_size]; omega
theorem spec_BestGuess_ev {w : List Int} (hw : dots64 w = true) {e : Edges} (h : edgesP e) : ∃ m c, spec_BestGuess w e = some (m, c) ∧ 0 ≤ m ∧ m ≤ 3 := by
 unfold spec_BestGuess
 rw [spec_EdgesOk_yes h, bnd_s, sel_t, spec_l13Dots_yes w hw, bnd_s, Bool.not_true, bnd_s, sel_f]
 obtain ⟨o, eo, o1, o2⟩ := loop_inv (f := spec_BestGuess_l2 w e) (fun v => (0 ≤ v.1 ∧ v.1 ≤ 3) ∧ 0 ≤ v.2.2 ∧ v.2.2 ≤ 4) (fun v => (4 - v.2.2).toNat) (fun _ o => 0 ≤ o.1 ∧ o.1 ≤ 3) (by
  intro ⟨m, c, i⟩ ⟨g1, g2, g3⟩
  simp only at g1 g2 g3
  unfold spec_BestGuess_l2
  simp only
  by_cases hi : i < 4
  ·
   obtain ⟨g, eg, hg⟩ := spec_GuessOf_ev i ⟨g2, by omega⟩ h
   obtain ⟨s, es, s1, s2⟩ := spec_UeSize_ev i ⟨g2, by omega⟩
   rw [sel_yes hi, eg, bnd_s, spec_GapOf_eq hw hg, bnd_s, es, bnd_s, sel_or, bnd_s, wk (e := i + 1) (by omega) (by omega)]
   cases (decide (c < 0) || decide (wrapK IntKind.i64 (gapTo w g 64 + s) < c)) with
   | true => exact .inr ⟨_, rfl, ⟨by simp only; omega, by simp only; omega, by simp only; omega⟩, by simp only; omega, fun _ h => h⟩
   | false => exact .inr ⟨_, rfl, ⟨by simp only; omega, by simp only; omega, by simp only; omega⟩, by simp only; omega, fun _ h => h⟩
  ·
   rw [sel_no hi]
   exact .inl ⟨_, rfl, g1⟩) (0, -1, 0) ⟨by simp, by simp, by simp⟩
 exact ⟨o.1, o.2, (bnd_e eo).trans rfl, o1, o2⟩
theorem spec_SeSize_ev (d : Int) (h : -500000 ≤ d ∧ d ≤ 500000) : spec_SeSize d = some (seSz d) := by
 unfold spec_SeSize spec_SeRow seSz
 rw [spec_l01In_eq, bnd_s, decide_eq_true h, Bool.not_true, sel_f, spec_l03Se_eq d h, bnd_s, bnd_s, strOfNums_size]
theorem spec_BestMove_ev {p : Pic} {w : List Int} {x y r : Int} (ok : picOk p = true) (hw : dots64 w = true) (hr : 0 ≤ r ∧ r ≤ 4) (hx : x.tmod 8 = 0) (hy : y.tmod 8 = 0) (h0 : heldAt p x y = true) :
  ∃ b, spec_BestMove p w x y r = some b ∧ (-4 ≤ b.1 ∧ b.1 ≤ 4) ∧ (-4 ≤ b.2.1 ∧ b.2.1 ≤ 4) := by
 obtain ⟨k1, k2, k3⟩ := picOk_parts ok
 have h0' := h0
 unfold heldAt at h0'
 rw [decide_eq_true_eq] at h0'
 unfold spec_BestMove
 rw [spec_l13Dots_yes w hw, bnd_s, sel_t, spec_l01In_eq, bnd_s, decide_eq_true hr, sel_t, spec_l13Fits_yes ok hx hy h0, bnd_s, Bool.not_true, bnd_s, sel_f, wk (e := 0 - r) (by omega) (by omega)]
 obtain ⟨o, h, ho⟩ := loop_inv (f := spec_BestMove_l12 p w x y r) (fun s => -r ≤ s.2.2.2 ∧ s.2.2.2 ≤ r + 1 ∧ (-4 ≤ s.1 ∧ s.1 ≤ 4) ∧ (-4 ≤ s.2.1 ∧ s.2.1 ≤ 4)) (fun s => (r + 1 - s.2.2.2).toNat) (fun _ b => (-4 ≤ b.1 ∧ b.1 ≤ 4) ∧ (-4 ≤ b.2.1 ∧ b.2.1 ≤ 4)) (by
  intro s ⟨g1, g2, g3⟩
  unfold spec_BestMove_l12
  by_cases hi : s.2.2.2 ≤ r
  ·
   rw [sel_yes hi, wk (e := s.2.2.2 + 1) (by omega) (by omega), wk (e := 0 - r) (by omega) (by omega)]
   obtain ⟨o, h, ho⟩ := loop_inv (f := spec_BestMove_l14 p w x y r s) (fun v => -r ≤ v.2.2.2 ∧ v.2.2.2 ≤ r + 1 ∧ (-4 ≤ v.1 ∧ v.1 ≤ 4) ∧ (-4 ≤ v.2.1 ∧ v.2.1 ≤ 4)) (fun v => (r + 1 - v.2.2.2).toNat) (fun _ b => (-4 ≤ b.1 ∧ b.1 ≤ 4) ∧ (-4 ≤ b.2.1 ∧ b.2.1 ≤ 4)) (by
    intro v ⟨f1, f2, f3⟩
    unfold spec_BestMove_l14
    by_cases hv : v.2.2.2 ≤ r
    ·
     rw [sel_yes hv, wk (e := x + v.2.2.2) (by omega) (by omega), wk (e := y + s.2.2.2) (by omega) (by omega), wk (e := v.2.2.2 + 1) (by omega) (by omega), spec_l12Within_8 ok, bnd_s]
     cases hh : heldAt p (x + v.2.2.2) (y + s.2.2.2) with
     | false => exact .inr ⟨_, rfl, ⟨by simp only; omega, by simp only; omega, f3⟩, by simp only; omega, fun _ h => h⟩
     | true =>
      have hb := blkL_dots p (x + v.2.2.2) (y + s.2.2.2)
      rw [Bool.not_true, sel_f, spec_BlockOf_eq ok _ _ (by omega) (by omega), bnd_s, spec_GapOf_eq hw hb, bnd_s, spec_SeSize_ev _ (by omega), bnd_s, spec_SeSize_ev _ (by omega), bnd_s, sel_or, bnd_s]
      cases (decide (v.2.2.1 < 0) || decide (wrapK IntKind.i64 (wrapK IntKind.i64 (gapTo w (blkL p (x + v.2.2.2) (y + s.2.2.2) 64) 64 + seSz v.2.2.2) + seSz s.2.2.2) < v.2.2.1)) with
      | true => exact .inr ⟨_, rfl, ⟨by simp only; omega, by simp only; omega, by simp only; omega⟩, by simp only; omega, fun _ h => h⟩
      | false => exact .inr ⟨_, rfl, ⟨by simp only; omega, by simp only; omega, f3⟩, by simp only; omega, fun _ h => h⟩
    ·
     rw [sel_no hv]
     exact .inl ⟨_, rfl, f3⟩) (s.1, s.2.1, s.2.2.1, 0 - r) ⟨by simp only; omega, by simp only; omega, g3⟩
   rw [h, bnd_s]
   exact .inr ⟨_, rfl, ⟨by simp only; omega, by simp only; omega, ho⟩, by simp only; omega, fun _ h => h⟩
  ·
   rw [sel_no hi]
   exact .inl ⟨_, rfl, g3⟩) (0, 0, -1, 0 - r) ⟨by simp only; omega, by simp only; omega, by simp, by simp⟩
 rw [h, bnd_s]
 exact ⟨_, rfl, ho⟩
theorem sqOk_skip : sqOk ⟨0, 0, 0, 0, []⟩ = true := rfl
theorem sqOk_guess {m : Int} {l : List Int} (hm : 0 ≤ m ∧ m ≤ 3) (hl : lv64 l = true) : sqOk ⟨2, m, 0, 0, l⟩ = true := by
 unfold sqOk
 simp only
 rw [if_neg (by omega), if_neg (by omega), if_pos trivial, hl, decide_eq_true hm]
 rfl
theorem sqOk_move {dx dy : Int} {l : List Int} (hx : -16 ≤ dx ∧ dx ≤ 16) (hy : -16 ≤ dy ∧ dy ≤ 16) (hl : lv64 l = true) : sqOk ⟨1, 0, dx, dy, l⟩ = true := by
 unfold sqOk
 simp only
 rw [if_neg (by omega), if_pos trivial, hl, decide_eq_true hx, decide_eq_true hy]
 rfl
theorem spec_l17Square_ev {now ref : Pic} {w : List Int} {x y r : Int} {c : Cond} (ok : picOk now = true) (hx : x.tmod 8 = 0) (hy : y.tmod 8 = 0) (h0 : heldAt now x y = true) (hw : dots64 w = true) (hc : condOk c = true) (hr : 0 ≤ r ∧ r ≤ 4)
  (hk : c.Key = false → picOk ref = true ∧ ref.Wide = now.Wide ∧ ref.High = now.High) : ∃ q, spec_l17Square now ref w x y c r = some q ∧ sqOk q = true ∧ (c.Key = true → q.Kind = 2) ∧ (-4 ≤ q.Dx ∧ q.Dx ≤ 4) ∧ (-4 ≤ q.Dy ∧ q.Dy ≤ 4) := by
 obtain ⟨k1, k2, k3⟩ := picOk_parts ok
 have h0' := h0
 unfold heldAt at h0'
 rw [decide_eq_true_eq] at h0'
 obtain ⟨e, ee, he⟩ := spec_EdgesOf_ev ok hx hy h0
 obtain ⟨m, cost, em, m1, m2⟩ := spec_BestGuess_ev hw he
 obtain ⟨g, eg, hg⟩ := spec_GuessOf_ev m ⟨m1, m2⟩ he
 obtain ⟨l, el, l1, l2⟩ := spec_l17Less_ev w g hw hg
 obtain ⟨v, ev, hv⟩ := spec_LevelsOf_ev l c hc l1 l2
 unfold spec_l17Square joinK
 simp only
 cases hK : c.Key with
 | true =>
  rw [sel_t, bnd_s, sel_f, ee, bnd_s, em, bnd_s, Bool.not_true, sel_f, eg, bnd_s, el, bnd_s, ev, bnd_s]
  exact ⟨_, rfl, sqOk_guess ⟨m1, m2⟩ hv, fun _ => rfl, by simp, by simp⟩
 | false =>
  obtain ⟨rok, rw', rh'⟩ := hk hK
  have h0r : heldAt ref x y = true := by unfold heldAt; rw [decide_eq_true_eq, rw', rh']; exact h0'
  obtain ⟨t, et, t1, t2⟩ := spec_l17Less_ev w _ hw (blkL_dots ref x y)
  obtain ⟨z, ez⟩ := spec_l17Zero_ev t (by omega)
  rw [sel_f, spec_BlockOf_eq rok x y (by omega) (by omega), bnd_s, et, bnd_s, ez, bnd_s, bnd_s]
  cases z with
  | true => exact ⟨_, rfl, sqOk_skip, (fun h => by cases h), by simp, by simp⟩
  | false =>
   obtain ⟨b, eb, b1, b2⟩ := spec_BestMove_ev (r := r) rok hw hr hx hy h0r
   rw [sel_f, ee, bnd_s, em, bnd_s, Bool.not_false, sel_t, eb, bnd_s]
   by_cases hcost : b.2.2 ≤ cost
   ·
    obtain ⟨t, et, t1, t2⟩ := spec_l17Less_ev w _ hw (blkL_dots ref (x + b.1) (y + b.2.1))
    obtain ⟨u, eu, hu⟩ := spec_LevelsOf_ev t c hc t1 t2
    have hul := (lv64_in hu).1
    obtain ⟨z, ez⟩ := spec_l17Zero_ev u (by omega)
    rw [sel_yes hcost, wk (e := x + b.1) (by omega) (by omega), wk (e := y + b.2.1) (by omega) (by omega), spec_BlockOf_eq rok _ _ (by omega) (by omega), bnd_s, et, bnd_s, eu, bnd_s, ez, bnd_s, sel_and, sel_and, bnd_s]
    cases (b.1 == 0 && (b.2.1 == 0 && z)) with
    | true => exact ⟨_, rfl, sqOk_skip, (fun h => by cases h), by simp, by simp⟩
    | false => exact ⟨_, rfl, sqOk_move (by omega) (by omega) hu, (fun h => by cases h), b1, b2⟩
   ·
    rw [sel_no hcost, eg, bnd_s, el, bnd_s, ev, bnd_s]
    exact ⟨_, rfl, sqOk_guess ⟨m1, m2⟩ hv, (fun h => by cases h), by simp, by simp⟩
theorem spec_SquareDots_ev {now ref : Pic} {x y : Int} {c : Cond} {q : Square} (ok : picOk now = true) (hx : x.tmod 8 = 0) (hy : y.tmod 8 = 0) (h0 : heldAt now x y = true) (hc : condOk c = true) (hq : sqOk q = true) (hd : (-4 ≤ q.Dx ∧ q.Dx ≤ 4) ∧ (-4 ≤ q.Dy ∧ q.Dy ≤ 4))
  (hk : q.Kind ≠ 2 → c.Key = false ∧ picOk ref = true) : ∃ d, spec_SquareDots now ref 0 0 c x y q = some (d, true) ∧ dots64 d = true := by
 obtain ⟨k1, k2, k3⟩ := picOk_parts ok
 have h0' := h0
 unfold heldAt at h0'
 rw [decide_eq_true_eq] at h0'
 unfold spec_SquareDots
 rw [spec_l13Fits_yes ok hx hy h0, bnd_s, sel_t, spec_l01In_eq, bnd_s, decide_eq_true (by omega), sel_t, bnd_s, sel_t, spec_SquareOk_eq, bnd_s, hq, sel_t, spec_CondOk_eq, bnd_s, hc, Bool.not_true, bnd_s, sel_f]
 by_cases h2 : q.Kind = 2
 ·
  obtain ⟨hm, hl⟩ := sqOk_two hq h2
  obtain ⟨e, ee, he⟩ := spec_EdgesOf_ev ok hx hy h0
  obtain ⟨b, eb, b1, b2⟩ := spec_LevelsBack_ev q.Levels c hc hl
  obtain ⟨g, eg, hg⟩ := spec_GuessOf_ev q.Mode hm he
  obtain ⟨j, ej, hj⟩ := spec_Joined_ev g b hg b1 b2
  rw [sel_pos (by simpa using h2), ee, bnd_s, eb, bnd_s, eg, bnd_s, ej, bnd_s]
  exact ⟨j, rfl, hj⟩
 ·
  obtain ⟨hK, rok⟩ := hk h2
  rw [sel_neg (by simpa using h2), hK, sel_f, spec_PicOk_eq, bnd_s, rok, Bool.not_true, bnd_s, sel_f, wk (e := 0 + x) (by omega) (by omega), wk (e := 0 + x + q.Dx) (by omega) (by omega), wk (e := 0 + y) (by omega) (by omega), wk (e := 0 + y + q.Dy) (by omega) (by omega), spec_BlockOf_eq rok _ _ (by omega) (by omega), bnd_s]
  by_cases h3 : q.Kind = 0
  ·
   rw [sel_pos (by simpa using h3)]
   exact ⟨_, rfl, blkL_dots _ _ _⟩
  ·
   have h1 : q.Kind = 1 := by have := sqOk_kind hq; omega
   obtain ⟨_, _, hl⟩ := sqOk_one hq h1
   obtain ⟨b, eb, b1, b2⟩ := spec_LevelsBack_ev q.Levels c hc hl
   obtain ⟨j, ej, hj⟩ := spec_Joined_ev _ b (blkL_dots ref (0 + x + q.Dx) (0 + y + q.Dy)) b1 b2
   rw [sel_neg (by simpa using h3), eb, bnd_s, ej, bnd_s]
   exact ⟨j, rfl, hj⟩
def likeB (p q : Pic) : Bool := picOk p && (picOk q && ((p.Wide == q.Wide) && (p.High == q.High)))
theorem spec_l17Like_eq (p q : Pic) : spec_l17Like p q = some (likeB p q) := by
 unfold spec_l17Like likeB
 rw [spec_PicOk_eq, bnd_s, spec_PicOk_eq, bnd_s]
 simp only [sel_and, bnd_s]
theorem likeB_parts {p q : Pic} (h : likeB p q = true) : picOk q = true ∧ q.Wide = p.Wide ∧ q.High = p.High := by
 unfold likeB at h
 simp only [Bool.and_eq_true, beq_iff_eq] at h
 exact ⟨h.2.1, h.2.2.1.symm, h.2.2.2.symm⟩
theorem likeB_of {p q : Pic} (h1 : picOk p = true) (h2 : picOk q = true) (h3 : q.Wide = p.Wide) (h4 : q.High = p.High) : likeB p q = true := by
 unfold likeB
 simp only [Bool.and_eq_true, beq_iff_eq]
 exact ⟨h1, h2, h3.symm, h4.symm⟩
theorem spec_SquareFor_ev {now ref : Pic} {w : List Int} {x y r : Int} {c : Cond} (ok : picOk now = true) (hx : x.tmod 8 = 0) (hy : y.tmod 8 = 0) (h0 : heldAt now x y = true) (hw : dots64 w = true) (hc : condOk c = true) (hr : 0 ≤ r ∧ r ≤ 4)
  (hk : c.Key = false → picOk ref = true ∧ ref.Wide = now.Wide ∧ ref.High = now.High) : ∃ q d, spec_SquareFor now ref w x y c r = some (q, d, true) ∧ sqOk q = true ∧ dots64 d = true ∧ (c.Key = true → q.Kind = 2) := by
 obtain ⟨q, eq, q1, q2, q3⟩ := spec_l17Square_ev ok hx hy h0 hw hc hr hk
 obtain ⟨d, ed, hd⟩ := spec_SquareDots_ev (ref := ref) ok hx hy h0 hc q1 q3 (fun h => by
  cases hK : c.Key with
  | true => exact absurd (q2 hK) h
  | false => exact ⟨rfl, (hk hK).1⟩)
 unfold spec_SquareFor
 have hl : sel c.Key (some false) (bnd (spec_l17Like now ref) fun q6 => some (!q6)) = some false := by
  cases hK : c.Key with
  | true => rfl
  | false =>
   obtain ⟨a1, a2, a3⟩ := hk hK
   rw [sel_f, spec_l17Like_eq, bnd_s, likeB_of ok a1 a2 a3]; rfl
 rw [spec_l13Fits_yes ok hx hy h0, bnd_s, sel_t, spec_l13Dots_yes w hw, bnd_s, sel_t, spec_CondOk_eq, bnd_s, hc, sel_t, spec_l01In_eq, bnd_s, decide_eq_true hr, sel_t, hl, bnd_s, sel_f, eq, bnd_s, ed, bnd_s]
 exact ⟨q, d, rfl, q1, hd, q2⟩
theorem spec_l16Put_ev {p : Pic} {x y : Int} {d : List Int} (ok : picOk p = true) (h0 : heldAt p x y = true) (hd : dots64 d = true) : ∃ p', spec_l16Put p x y d = some p' ∧ picOk p' = true ∧ p'.Wide = p.Wide ∧ p'.High = p.High := by
 have hm : maxLen = 9223372036854775807 := rfl
 obtain ⟨k1, k2, k3⟩ := picOk_parts ok
 have ar := area_small k1 k2
 unfold heldAt at h0
 rw [decide_eq_true_eq] at h0
 have hdl := (dots64_at hd).1
 have hn := numsOf_length p.Dots
 unfold spec_l16Put
 rw [req_p (by omega)]
 obtain ⟨o, e, o1⟩ := st_loop (f := spec_l16Put_l2 p x y d) 64 (fun _ s => s.length = p.Dots.size) (by
  intro i s hi g1
  have b1 : 0 ≤ (y + (i : Int) / 8) * p.Wide := Int.mul_nonneg (by omega) (by omega)
  have b2 : (y + (i : Int) / 8) * p.Wide ≤ (p.High - 1) * p.Wide := Int.mul_le_mul_of_nonneg_right (by omega) (by omega)
  have b3 : (p.High - 1) * p.Wide = p.Wide * p.High - p.Wide := by rw [Int.sub_mul, Int.one_mul, Int.mul_comm]
  unfold spec_l16Put_l2
  simp only
  rw [sel_yes (by omega), req_p (by omega), req_p (by omega), req_p (by omega), tdiv_pos (by omega), tmod_pos (by omega), wk (e := (i : Int) / 8) (by omega) (by omega), wk (e := y + (i : Int) / 8) (by omega) (by omega), wk (e := (y + (i : Int) / 8) * p.Wide) (by omega) (by omega), wk (e := (y + (i : Int) / 8) * p.Wide + x) (by omega) (by omega), wk (e := (y + (i : Int) / 8) * p.Wide + x + (i : Int) % 8) (by omega) (by omega), req_p (by omega), req_p (by omega), wk (e := (i : Int) + 1) (by omega) (by omega)]
  exact ⟨_, rfl, by rw [List.length_set]; exact g1⟩) (by intro s; unfold spec_l16Put_l2; rw [sel_no (by simp)]) (numsOf p.Dots) hn
 refine ⟨_, (bnd_e e).trans rfl, picOk_of k1 k2 ?_, rfl, rfl⟩
 simp only
 rw [strOfNums_size]; omega
theorem spec_Grey_ev (w h : Int) (hw : 1 ≤ w ∧ w ≤ 256) (hh : 1 ≤ h ∧ h ≤ 256) : ∃ p, spec_Grey w h = some p ∧ picOk p = true ∧ p.Wide = w ∧ p.High = h := by
 have ar := area_small hw hh
 unfold spec_Grey
 rw [spec_l01In_eq, bnd_s, decide_eq_true hw, sel_t, spec_l01In_eq, bnd_s, decide_eq_true hh, Bool.not_true, bnd_s, sel_f, wk (e := w * h) (by omega) (by omega), show w * h = (((w * h).toNat : Nat) : Int) by omega, spec_l01Long_eq _ _ (by omega), bnd_s]
 refine ⟨_, rfl, picOk_of hw hh ?_, rfl, rfl⟩
 simp only
 rw [strOfNums_size, List.length_replicate]; omega
def sideB (n : Int) : Bool := decide (n.tmod 8 = 0) && decide (8 ≤ n ∧ n ≤ 64)
theorem spec_l16Side_eq (n : Int) : spec_l16Side n = some (sideB n) := by
 unfold spec_l16Side sideB
 rw [req_p (by omega), spec_l01In_eq, bnd_s, sel_and, bnd_s, beq_dec]
theorem spec_TileFor_ev (src ref : Pic) (c : Cond) (r : Int) : ∃ l p b, spec_TileFor src ref c r = some (l, p, b) ∧ l.length ≤ 64 ∧ (∀ s ∈ l, sqOk s = true) := by
 have hm : maxLen = 9223372036854775807 := rfl
 unfold spec_TileFor
 rw [spec_PicOk_eq, bnd_s, spec_l16Side_eq, bnd_s, spec_l16Side_eq, bnd_s, spec_CondOk_eq, bnd_s, spec_l01In_eq, bnd_s, spec_l17Like_eq, bnd_s, sel_nand]
 simp only [sel_nor, bnd_s]
 cases hchk : (!picOk src || (!sideB src.Wide || (!sideB src.High || (!condOk c || (!decide (0 ≤ r ∧ r ≤ 4) || (!c.Key && !likeB src ref)))))) with
 | true => exact ⟨_, _, _, rfl, by simp, fun s hs => by simp at hs⟩
 | false =>
  simp only [Bool.or_eq_false_iff, Bool.not_eq_false', decide_eq_true_eq] at hchk
  obtain ⟨ok, sw, sh, hc, hr, hlike⟩ := hchk
  have hk : c.Key = false → likeB src ref = true := by
   intro hK
   rw [hK] at hlike
   simpa using hlike
  obtain ⟨k1, k2, k3⟩ := picOk_parts ok
  unfold sideB at sw sh
  rw [Bool.and_eq_true, decide_eq_true_eq, decide_eq_true_eq, tmod_pos (by omega)] at sw sh
  obtain ⟨g, eg, g1, g2, g3⟩ := spec_Grey_ev src.Wide src.High k1 k2
  rw [sel_f, eg, bnd_s]
  obtain ⟨o, e, o1, o2⟩ := loop_inv (f := spec_TileFor_l12 src ref c r)
   (fun v => 0 ≤ v.1 ∧ v.1 ≤ src.High ∧ v.1 % 8 = 0 ∧ (v.2.1.length : Int) ≤ v.1 ∧ (∀ s ∈ v.2.1, sqOk s = true) ∧ picOk ⟨v.2.2.1, v.2.2.2.1, v.2.2.2.2⟩ = true ∧ v.2.2.1 = src.Wide ∧ v.2.2.2.1 = src.High) (fun v => (src.High - v.1).toNat) (fun _ o => (o.1.length : Int) ≤ 64 ∧ ∀ s ∈ o.1, sqOk s = true) (by
   intro ⟨y, sq, w, h, dt⟩ ⟨f1, f2, f3, f4, f5, f6, f7, f8⟩
   simp only at f1 f2 f3 f4 f5 f6 f7 f8
   unfold spec_TileFor_l12
   simp only
   by_cases hy : y < src.High
   ·
    rw [sel_yes hy]
    obtain ⟨o, e, o1, o2, o3, o4, o5⟩ := loop_inv (f := spec_TileFor_l14 src ref c r (y, sq, w, h, dt))
     (fun v => 0 ≤ v.1 ∧ v.1 ≤ src.Wide ∧ v.1 % 8 = 0 ∧ 8 * ((v.2.1.length : Int) - sq.length) ≤ v.1 ∧ (∀ s ∈ v.2.1, sqOk s = true) ∧ picOk ⟨v.2.2.1, v.2.2.2.1, v.2.2.2.2⟩ = true ∧ v.2.2.1 = src.Wide ∧ v.2.2.2.1 = src.High) (fun v => (src.Wide - v.1).toNat)
     (fun _ o => (o.1.length : Int) ≤ y + 8 ∧ (∀ s ∈ o.1, sqOk s = true) ∧ picOk ⟨o.2.1, o.2.2.1, o.2.2.2⟩ = true ∧ o.2.1 = src.Wide ∧ o.2.2.1 = src.High) (by
     intro ⟨x, sq2, w2, h2, dt2⟩ ⟨e1, e2, e3, e4, e5, e6, e7, e8⟩
     simp only at e1 e2 e3 e4 e5 e6 e7 e8
     unfold spec_TileFor_l14
     simp only
     by_cases hx : x < src.Wide
     ·
      have held : heldAt (⟨w2, h2, dt2⟩ : Pic) x y = true := by unfold heldAt; rw [decide_eq_true_eq]; simp only; omega
      obtain ⟨q, d, eq, q1, q2, _⟩ := spec_SquareFor_ev (now := (⟨w2, h2, dt2⟩ : Pic)) (ref := ref) (w := blkL src x y 64) (r := r) (c := c) e6 (by rw [tmod_pos e1]; exact e3) (by rw [tmod_pos f1]; exact f3) held (blkL_dots _ _ _) hc hr (fun hK => by
       obtain ⟨a1, a2, a3⟩ := likeB_parts (hk hK)
       exact ⟨a1, by simp only; omega, by simp only; omega⟩)
      obtain ⟨p', ep, p1, p2, p3⟩ := spec_l16Put_ev e6 held q2
      rw [sel_yes hx, spec_BlockOf_eq ok x y (by omega) (by omega), bnd_s, eq, bnd_s]
      simp only
      rw [req_p (by simp only [List.length_singleton]; omega), ep, bnd_s, wk (e := x + 8) (by omega) (by omega)]
      refine .inr ⟨_, rfl, ⟨by simp only; omega, by simp only; omega, by simp only; omega, by simp only [List.length_append, List.length_singleton]; omega, ?_, p1, ?_, ?_⟩, by simp only; omega, fun _ h => h⟩
      ·
       intro s hs
       rcases List.mem_append.1 hs with hs | hs
       ·
        exact e5 s hs
       ·
        rw [List.mem_singleton.1 hs]; exact q1
      ·
       simp only at p2 ⊢; rw [p2]; exact e7
      ·
       simp only at p3 ⊢; rw [p3]; exact e8
     ·
      rw [sel_no hx]
      exact .inl ⟨_, rfl, by simp only; omega, e5, e6, e7, e8⟩) (0, sq, w, h, dt) ⟨by simp, by simp only; omega, by simp, by simp, f5, f6, f7, f8⟩
    rw [e, bnd_s, wk (e := y + 8) (by omega) (by omega)]
    exact .inr ⟨_, rfl, ⟨by simp only; omega, by simp only; omega, by simp only; omega, o1, o2, o3, o4, o5⟩, by simp only; omega, fun _ h => h⟩
   ·
    rw [sel_no hy]
    exact .inl ⟨_, rfl, by simp only; omega, f5⟩) (0, [], g.Wide, g.High, g.Dots) ⟨by simp, by simp only; omega, by simp, by simp, fun s hs => by simp at hs, g1, g2, g3⟩
  rw [e, bnd_s]
  exact ⟨_, _, _, rfl, by omega, o2⟩
theorem tilesL_len2 (l : List Square) (c : Cond) (h : ∀ s ∈ l, sqOk s = true) : (tilesL l c).length ≤ 5265 * l.length := by
 induction l with
 | nil => simp [tilesL]
 | cons s r ih =>
  have h1 := sqL_len (c := c) (h s (List.mem_cons_self))
  have h2 := ih (fun x hx => h x (List.mem_cons_of_mem _ hx))
  rw [tilesL, List.length_append, List.length_cons]; omega
theorem spec_l16Row_eq (l : List Square) (c : Cond) (hs : ∀ s ∈ l, sqOk s = true) (hl : l.length ≤ 64) : spec_l16Row l c = some (strOfNums (tilesL l c)) := by
 have hm : maxLen = 9223372036854775807 := rfl
 have kr : ∀ (r a : List Square) (t : List Int), l = a ++ r → t.length ≤ 5265 * a.length → loop (spec_l16Row_l2 l c) ((a.length : Int), t) = some (t ++ tilesL r c) := by
  intro r
  induction r with
  | nil =>
   intro a t ha _
   rw [List.append_nil] at ha
   exact ldone (by unfold spec_l16Row_l2; simp only; rw [sel_no (by rw [ha]; omega), tilesL, List.append_nil])
  | cons s r ih =>
   intro a t ha ht
   have hlen : a.length < l.length := by rw [ha]; simp
   have hx : l.getD a.length dSquare = s := by rw [ha]; exact getD_mid a s _ r
   have hok : sqOk s = true := hs s (by rw [ha]; simp)
   have g := sqL_len (c := c) hok
   have hn := ih (a ++ [s]) (t ++ sqL s c) (by rw [ha]; simp) (by simp only [List.length_append, List.length_singleton]; omega)
   rw [List.length_append, List.length_singleton] at hn
   rw [tilesL, ← List.append_assoc, ← hn]
   refine loop_go ?_
   unfold spec_l16Row_l2
   simp only [Int.toNat_natCast, hx]
   rw [sel_yes (by omega), req_p (by omega), show (⟨s.Kind, s.Mode, s.Dx, s.Dy, s.Levels⟩ : Square) = s from rfl, spec_l15Row_eq s c hok, bnd_s, nums_str _ (bitL_byte (sqL_bit _ _)), req_p (by omega), wk (by omega) (by omega)]
   rfl
 unfold spec_l16Row
 exact bnd_e (kr l [] [] rfl (by simp))
theorem spec_RateNext_ev (r : Rate) (n : Int) : ∃ r', spec_RateNext r n = some r' := by
 unfold spec_RateNext
 simp only [spec_RateOk_eq, spec_Brought_eq, bnd_s, sel_ss]
 exact ⟨_, rfl⟩
theorem spec_QpFor_ev (r : Rate) (k : Bool) : ∃ q, spec_QpFor r k = some q := by
 unfold spec_QpFor
 simp only [spec_RateOk_eq, spec_Brought_eq, bnd_s, sel_ss]
 exact ⟨_, rfl⟩
theorem spec_KeyDue_ev (s : Source) (b : Bool) (hb : (Lit.int .i64 s.Seq.Bits).wf = true) : ∃ k, spec_KeyDue s b = some k := by
 unfold spec_KeyDue
 simp only [spec_SourceOk_eq s hb, bnd_s, sel_ss]
 exact ⟨_, rfl⟩
theorem bits_u64 {b : Int} (h : 3 ≤ b ∧ b ≤ 8) : wrapK .u64 b = b := by
 rcases (show b = 3 ∨ b = 4 ∨ b = 5 ∨ b = 6 ∨ b = 7 ∨ b = 8 by omega) with rfl | rfl | rfl | rfl | rfl | rfl <;> decide
theorem spec_HeadRow_ev (s : Seq) (p : Par) (f q : Int) (hs : seqOk s = true) (hf : 0 ≤ f ∧ f ≤ 1000000) : ∃ l b, spec_HeadRow s p ⟨0, f, q⟩ = some (strOfNums l, b) ∧ bitL l ∧ l.length ≤ 200 := by
 obtain ⟨_, _, b3, b8⟩ := seqOk_sides hs
 have hb := bits_u64 ⟨b3, b8⟩
 unfold spec_HeadRow spec_HeadOk
 simp only [spec_ParOk_eq, spec_TilesOf_eq, spec_l01In_eq, hb, bnd_s]
 rw [req_p (by omega)]
 simp only [sel_and, bnd_s]
 cases hc : (parOk p && (decide ((0 : Int) ≥ 0) && (decide (0 < tilesOf s) && (decide (f ≥ 0) && (decide (f < wrapK IntKind.i64 (1 * 2 ^ min s.Bits.toNat (IntKind.bits IntKind.i64))) && decide (0 ≤ q ∧ q ≤ 40)))))) with
 | false => exact ⟨[], false, rfl, bitL_nil, by simp⟩
 | true =>
  simp only [Bool.and_eq_true, decide_eq_true_eq] at hc
  have pq := parOk_qp hc.1
  have q0 := hc.2.2.2.2.2
  have u := ueL_len 0 (by omega)
  have z := seL_len (q - p.Qp) (by omega)
  rw [Bool.not_true, sel_f, show (0 : Int) = ((0 : Nat) : Int) from rfl, spec_l03Ue_eq 0 (by omega), bnd_s, show s.Bits = ((s.Bits.toNat : Nat) : Int) by omega, spec_l02Fix_eq f _ hf.1 (by omega) (by omega), bnd_s, wk (e := q - p.Qp) (by omega) (by omega)]
  have fl := fixL_len s.Bits.toNat f
  rw [req_p (by simp only [strOfNums_size]; omega), spec_l03Se_eq _ (by omega), bnd_s, str_append, req_p (by simp only [strOfNums_size, List.length_append]; omega), str_append]
  exact ⟨_, true, rfl, bitL_append (bitL_append (ueL_bit _) (fixL_bit _ _)) (ueL_bit _), by simp only [List.length_append]; omega⟩
theorem sourceSets_len (s : Source) : (sourceSets s).length ≤ 2 ∧ ∀ u ∈ sourceSets s, u.size ≤ 1000000 := by
 unfold sourceSets
 split
 ·
  rename_i h
  obtain ⟨h1, h2⟩ := sourceOk_parts h
  have a := seqL_len h1
  have b := parL_len s.Par
  refine ⟨by simp, fun u hu => ?_⟩
  simp only [List.mem_cons, List.not_mem_nil, or_false] at hu
  rcases hu with rfl | rfl
  ·
   rw [strOfNums_size, List.length_cons, pack_len]; omega
  ·
   rw [strOfNums_size, List.length_cons, pack_len]; omega
 ·
  exact ⟨by simp, fun u hu => by simp at hu⟩
theorem spec_l05Copy_eq (s : Seq) (h1 : s.Cols.length ≤ 1000) (h2 : s.Rows.length ≤ 1000) : spec_l05Copy s = some s := by
 have hm : maxLen = 9223372036854775807 := rfl
 unfold spec_l05Copy
 rw [req_p (by simp only [List.length_nil]; omega), req_p (by simp only [List.length_nil]; omega)]
 rfl
theorem spec_SourceStep_ev (s : Source) (p : Pic) (want : Bool) (h1 : s.Seq.Cols.length ≤ 1000) (h2 : s.Seq.Rows.length ≤ 1000) (hb : (Lit.int .i64 s.Seq.Bits).wf = true) :
  ∃ s' us ok, spec_SourceStep s p want = some (s', us, ok) ∧ s'.Seq = s.Seq ∧ us.length ≤ 3 ∧ ∀ u ∈ us, u.size ≤ 1000000 := by
 have hm : maxLen = 9223372036854775807 := rfl
 obtain ⟨k, ek⟩ := spec_KeyDue_ev s want hb
 unfold spec_SourceStep
 rw [spec_SizeOf_eq, bnd_s, ek, bnd_s, spec_SourceOk_eq s hb, bnd_s, spec_PicOk_eq, bnd_s]
 have hv : ∃ b, (sel (sourceOk s) (sel (picOk p) (sel (p.Wide != (sizeOfS s.Seq).1) (some true) (sel (p.High != (sizeOfS s.Seq).2) (some true) (sel k (some false) (some (decide (s.Since ≥ 1000)))))) (some true)) (some true)) = some b ∧ (b = false → sourceOk s = true) := by
  cases hs : sourceOk s with
  | false => exact ⟨true, rfl, fun h => by cases h⟩
  | true =>
   rw [sel_t]
   simp only [sel_ss]
   exact ⟨_, rfl, fun _ => trivial⟩
 obtain ⟨b, eb, hbf⟩ := hv
 rw [eb, bnd_s]
 cases b with
 | true =>
  rw [sel_t, spec_l05Copy_eq _ h1 h2, bnd_s]
  exact ⟨_, _, _, rfl, rfl, by simp, (fun u hu => by simp at hu)⟩
 | false =>
  have ok := hbf rfl
  obtain ⟨so, _⟩ := sourceOk_parts ok
  obtain ⟨_, _, b3, b8⟩ := seqOk_sides so
  have bp := bits_pow ⟨b3, b8⟩
  have hfr : 0 ≤ s.Frame ∧ s.Frame ≤ 1000000 := by
   unfold sourceOk at ok
   simp only [Bool.and_eq_true, decide_eq_true_eq] at ok
   have := ok.1.1.2
   omega
  obtain ⟨q, eq⟩ := spec_QpFor_ev s.Rate k
  obtain ⟨l, p', tb, et, t1, t2⟩ := spec_TileFor_ev p s.Ref ⟨k, q, s.Par.Large, s.Par.Exact⟩ s.Reach
  obtain ⟨hl, hbb, eh, e1, e2⟩ := spec_HeadRow_ev s.Seq s.Par s.Frame q so hfr
  have tl := tilesL_len2 l ⟨k, q, s.Par.Large, s.Par.Exact⟩ t2
  rw [sel_f, eq, bnd_s, et, bnd_s, eh, bnd_s]
  simp only
  rw [spec_l16Row_eq l _ t2 t1, bnd_s, req_p (by simp only [strOfNums_size]; omega), str_append]
  have hk : ∃ kd us, (sel k (bnd (spec_SourceSets s) fun q12 => some ((5 : Int), q12)) (some (1, ([] : List ByteArray)))) = some (kd, us) ∧ isKind kd = true ∧ us.length ≤ 2 ∧ ∀ u ∈ us, u.size ≤ 1000000 := by
   cases k with
   | true =>
    have := sourceSets_len s
    rw [sel_t, spec_SourceSets_eq s hb, bnd_s]
    exact ⟨5, _, rfl, rfl, this.1, this.2⟩
   | false => exact ⟨1, [], rfl, rfl, by simp, fun u hu => by simp at hu⟩
  obtain ⟨kd, us, ekd, kd1, us1, us2⟩ := hk
  rw [ekd, bnd_s]
  simp only
  rw [spec_UnitOf_eq kd _ kd1 (bitL_append e1 (tilesL_bit _ _)) (by rw [List.length_append]; omega), bnd_s, req_p (by simp only [List.length_singleton]; omega), spec_l05Copy_eq _ h1 h2, bnd_s]
  obtain ⟨r', er⟩ := spec_RateNext_ev s.Rate ((strOfNums (hl ++ tilesL l ⟨k, q, s.Par.Large, s.Par.Exact⟩)).size : Int)
  rw [er, bnd_s, bits_u64 ⟨b3, b8⟩, req_p (by omega), bp.1, Int.one_mul, wk (e := 2 ^ s.Seq.Bits.toNat) (by omega) (by omega), req_p (by omega), sel_ss, bnd_s]
  refine ⟨_, _, _, rfl, rfl, by simp; omega, fun u hu => ?_⟩
  rcases List.mem_append.1 hu with hu | hu
  ·
   exact us2 u hu
  ·
   rw [List.mem_singleton.1 hu]
   simp only
   rw [strOfNums_size, List.length_cons, pack_len, List.length_append]; omega
theorem spec_l05ParRight_ev (c : L01Cur) (hc : curOk c) : ∃ p c', spec_l05ParRight c = some (p, c') ∧ parOk p = true ∧ curOk c' := by
 unfold spec_l05ParRight
 obtain ⟨x, c1, e1, x0, x1, _, h1⟩ := spec_l01Below_ev c 41 hc
 obtain ⟨b, c2, e2, h2⟩ := spec_l01Once_ev c1 4 h1
 obtain ⟨y, c3, e3, y0, y1, _, h3⟩ := spec_l01Below_ev c2 3 h2
 have x1' := x1 (by omega)
 rw [e1, bnd_s]
 simp only
 rw [e2, bnd_s]
 simp only
 rw [e3, bnd_s]
 simp only
 have po : ∀ (l e f : Bool), (l && e) = false → parOk ⟨x, l, e, f⟩ = true := by
  intro l e f h
  unfold parOk
  rw [Bool.and_eq_true, decide_eq_true_eq]
  exact ⟨by simp only; omega, by simp only [h]; rfl⟩
 cases (y == 0) with
 | true => exact ⟨_, _, rfl, po _ _ _ rfl, h3⟩
 | false =>
  cases (y == 1) with
  | true => exact ⟨_, _, rfl, po _ _ _ rfl, h3⟩
  | false => exact ⟨_, _, rfl, po _ _ _ rfl, h3⟩
theorem made_ok : ∀ c r b : Int, (c = 1 ∨ c = 2) → (r = 1 ∨ r = 2) → (b = 3 ∨ b = 4 ∨ b = 5) → tilesOf ⟨levelFor [c] [r], b, [c], [r]⟩ = 1 ∧ sizeOfS ⟨levelFor [c] [r], b, [c], [r]⟩ = (8 * c, 8 * r) := by
 intro c r b hc hr hb
 rcases hc with rfl | rfl <;> rcases hr with rfl | rfl <;> rcases hb with rfl | rfl | rfl <;> decide +kernel
theorem madeSource_ok (c r b : Int) (p : Par) (t : Rate) (e n : Int) (hc : c = 1 ∨ c = 2) (hr : r = 1 ∨ r = 2) (hb : b = 3 ∨ b = 4 ∨ b = 5) (hp : parOk p = true) (ht : rateOk t = true) (he : 1 ≤ e ∧ e ≤ 5) (hn : 0 ≤ n ∧ n ≤ 2) : sourceOk (madeSource c r b p t e n) = true := by
 have hm := (made_ok c r b hc hr hb).1
 have hpow : (0 : Int) < 2 ^ b.toNat := by rcases hb with rfl | rfl | rfl <;> decide
 unfold sourceOk madeSource
 simp only
 rw [decide_eq_true hm, hp, ht, decide_eq_true ⟨by omega, hpow⟩, decide_eq_true (by omega)]
 rfl
theorem spec_SourceNew_ev (c r b : Int) (p : Par) (t : Rate) (e n : Int) (hc : c = 1 ∨ c = 2) (hr : r = 1 ∨ r = 2) (hb : b = 3 ∨ b = 4 ∨ b = 5) (hp : parOk p = true) (ht : rateOk t = true) (he : 1 ≤ e ∧ e ≤ 5) (hn : 0 ≤ n ∧ n ≤ 2) : spec_SourceNew c r b p t e n = some (madeSource c r b p t e n, true) := by
 have hs := madeSource_ok c r b p t e n hc hr hb hp ht he hn
 have hw : (Lit.int .i64 b).wf = true := by rcases hb with rfl | rfl | rfl <;> decide
 unfold spec_SourceNew
 rw [spec_LevelFor_eq, bnd_s]
 have := spec_SourceOk_eq (madeSource c r b p t e n) hw
 unfold madeSource at this hs ⊢
 rw [this, hs, bnd_s]
 rfl
theorem spec_l19Right_ev (c : L01Cur) (hc : curOk c) : ∃ s us c', spec_l19Right c = some (s, us, c') ∧ us.length ≤ 12 ∧ (∀ u ∈ us, u.size ≤ 1000000) ∧ curOk c' := by
 have hm : maxLen = 9223372036854775807 := rfl
 unfold spec_l19Right
 obtain ⟨x1, c1, e1, a1, b1, _, h1⟩ := spec_l01Below_ev c 2 hc
 obtain ⟨x2, c2, e2, a2, b2, _, h2⟩ := spec_l01Below_ev c1 2 h1
 obtain ⟨x3, c3, e3, a3, b3, _, h3⟩ := spec_l01Below_ev c2 3 h2
 obtain ⟨p, c4, e4, hp, h4⟩ := spec_l05ParRight_ev c3 h3
 obtain ⟨t, c5, e5, ht, h5⟩ := spec_l18Right_ev c4 h4
 obtain ⟨x6, c6, e6, a6, b6, _, h6⟩ := spec_l01Below_ev c5 5 h5
 obtain ⟨x7, c7, e7, a7, b7, _, h7⟩ := spec_l01Below_ev c6 3 h6
 have b1' := b1 (by omega)
 have b2' := b2 (by omega)
 have b3' := b3 (by omega)
 have b6' := b6 (by omega)
 have b7' := b7 (by omega)
 rw [e1, bnd_s]
 simp only
 rw [e2, bnd_s]
 simp only
 rw [e3, bnd_s]
 simp only
 rw [e4, bnd_s]
 simp only
 rw [e5, bnd_s]
 simp only
 rw [e6, bnd_s]
 simp only
 rw [e7, bnd_s]
 simp only
 rw [wk (e := 1 + x1) (by omega) (by omega), wk (e := 1 + x2) (by omega) (by omega), wk (e := 3 + x3) (by omega) (by omega), wk (e := 1 + x6) (by omega) (by omega), spec_SourceNew_ev (1 + x1) (1 + x2) (3 + x3) p t (1 + x6) x7 (by omega) (by omega) (by omega) hp ht (by omega) (by omega), bnd_s]
 have hsz := (made_ok (1 + x1) (1 + x2) (3 + x3) (by omega) (by omega) (by omega)).2
 have hwf : (Lit.int .i64 (3 + x3)).wf = true := by
  obtain rfl | rfl | rfl : x3 = 0 ∨ x3 = 1 ∨ x3 = 2 := by omega
  all_goals decide
 unfold madeSource
 simp only
 rw [spec_SizeOf_eq, bnd_s, hsz]
 simp only
 obtain ⟨pic, c8, e8, pw, ph, pok, h8⟩ := spec_l12Sized_ev c7 (8 * (1 + x1)) (8 * (1 + x2)) h7 (by omega) (by omega)
 rw [e8, bnd_s]
 simp only
 obtain ⟨o, eo, ho⟩ := loop_inv (f := spec_l19Right_l2)
  (fun (i, b, j, h, lev, bits, pq, pl, pe, pc, rq, rt, rd, fr, si, ev, re, ha, rw, rh, rdots, us, w, hh, dd, co, ro) => (0 ≤ i ∧ i ≤ 4) ∧ curOk ⟨b, j, h⟩ ∧ co.length ≤ 1000 ∧ ro.length ≤ 1000 ∧ (Lit.int .i64 bits).wf = true ∧ (us.length : Int) ≤ 3 * i ∧ (∀ u ∈ us, u.size ≤ 1000000) ∧ picOk ⟨w, hh, dd⟩ = true)
  (fun v => (4 - v.1).toNat)
  (fun _ (lev, bits, pq, pl, pe, pc, rq, rt, rd, fr, si, ev, re, ha, rw, rh, rdots, us, b, j, h, co, ro) => us.length ≤ 12 ∧ (∀ u ∈ us, u.size ≤ 1000000) ∧ curOk ⟨b, j, h⟩) (by
  intro ⟨i, b, j, h, lev, bits, pq, pl, pe, pc, rq, rt, rd, fr, si, ev, re, ha, rw', rh, rdots, us, w, hh, dd, co, ro⟩ ⟨g1, g2, g3, g4, g5, g6, g7, g8⟩
  unfold spec_l19Right_l2
  simp only
  obtain ⟨x, k1, f1, y0, y1, _, q1⟩ := spec_l01Below_ev _ 4 g2
  have y1' := y1 (by omega)
  rw [f1, bnd_s]
  simp only
  by_cases hi : i < x
  ·
   obtain ⟨z, k2, f2, q2⟩ := spec_l01Once_ev k1 5 q1
   obtain ⟨s', us', ok, f3, s1, s2, s3⟩ := spec_SourceStep_ev (⟨(⟨lev, bits, co, ro⟩ : Seq), (⟨pq, pl, pe, pc⟩ : Par), (⟨rq, rt, rd⟩ : Rate), fr, si, ev, re, ha, (⟨rw', rh, rdots⟩ : Pic)⟩ : Source) (⟨w, hh, dd⟩ : Pic) z g3 g4 g5
   obtain ⟨p2, k3, f4, p3, p4, p5, q3⟩ := spec_l17Near_ev k2 (⟨w, hh, dd⟩ : Pic) q2 g8
   rw [sel_yes hi, f2, bnd_s]
   simp only
   rw [f3, bnd_s]
   simp only
   rw [req_p (by omega), f4, bnd_s, wk (e := i + 1) (by omega) (by omega)]
   simp only at s1
   refine .inr ⟨_, rfl, ⟨by omega, q3, ?_, ?_, ?_, ?_, ?_, p5⟩, by simp only; omega, fun _ h => h⟩
   ·
    simp only [s1]; exact g3
   ·
    simp only [s1]; exact g4
   ·
    simp only [s1]; exact g5
   ·
    rw [List.length_append]; omega
   ·
    intro u hu
    rcases List.mem_append.1 hu with hu | hu
    ·
     exact g7 u hu
    ·
     exact s3 u hu
  ·
   rw [sel_no hi]
   exact .inl ⟨_, rfl, by simp only; omega, g7, q1⟩) (0, c8.b_, c8.i_, c8.h_, levelFor [1 + x1] [1 + x2], 3 + x3, p.Qp, p.Large, p.Exact, p.Confined, t.Qp, t.Target, t.Debt, 0, 0, 1 + x6, x7, false, 0, 0, ⟨#[]⟩, [], pic.Wide, pic.High, pic.Dots, [1 + x1], [1 + x2]) ⟨⟨Int.le_refl _, by omega⟩, h8, by simp, by simp, hwf, by simp, (fun u hu => by simp at hu), pok⟩
 obtain ⟨lev, bits, pq, pl, pe, pc, rq, rt, rd, fr, si, ev, re, ha, rw', rh, rdots, us, b, j, h, co, ro⟩ := o
 rw [eo, bnd_s]
 exact ⟨_, _, _, rfl, ho.1, ho.2.1, ho.2.2⟩
theorem spec_l04Text_ev (c : L01Cur) (hc : curOk c) : ∃ s c', spec_l04Text c = some (s, c') ∧ s.size ≤ 1000 ∧ curOk c' := by
 have hm : maxLen = 9223372036854775807 := rfl
 unfold spec_l04Text
 obtain ⟨o, e, o1, o2⟩ := loop_inv (f := spec_l04Text_l2) (fun v => 0 ≤ v.1 ∧ v.1 ≤ 14 ∧ curOk ⟨v.2.1, v.2.2.1, v.2.2.2.1⟩ ∧ (v.2.2.2.2.length : Int) = v.1) (fun v => (14 - v.1).toNat) (fun _ o => curOk ⟨o.1, o.2.1, o.2.2.1⟩ ∧ o.2.2.2.length ≤ 14) (by
  intro ⟨i, b, j, h, l⟩ ⟨g1, g2, g3, g4⟩
  unfold spec_l04Text_l2
  simp only at g1 g2 g3 g4 ⊢
  obtain ⟨x, c1, e1, x0, x1, _, h1⟩ := spec_l01Below_ev _ 14 g3
  have x1' := x1 (by omega)
  rw [e1, bnd_s]
  simp only
  by_cases hi : i < x
  ·
   obtain ⟨y, c2, e2, _, h2⟩ := spec_l01PickInt_ev c1 [0, 0, 0, 0, 1, 2, 3, 3, 4, 200] h1 (by decide) (by decide)
   rw [sel_yes hi, e2, bnd_s, req_p (by simp only [List.length_singleton]; omega), wk (e := i + 1) (by omega) (by omega)]
   exact .inr ⟨_, rfl, ⟨by simp only; omega, by simp only; omega, h2, by simp; omega⟩, by simp only; omega, fun _ h => h⟩
  ·
   rw [sel_no hi]
   exact .inl ⟨_, rfl, h1, by simp only; omega⟩) (0, c.b_, c.i_, c.h_, []) ⟨by simp, by simp, hc, by simp⟩
 rw [e, bnd_s]
 obtain ⟨b, c1, e1, h1⟩ := spec_l01Once_ev _ 8 o1
 rw [e1, bnd_s]
 simp only
 cases b with
 | true =>
  rw [Bool.not_true, sel_f, bnd_s]
  exact ⟨_, _, rfl, by simp only; rw [strOfNums_size]; omega, h1⟩
 | false =>
  obtain ⟨y, c2, e2, _, _, _, h2⟩ := spec_l01Below_ev c1 5 h1
  rw [Bool.not_false, sel_t, e2, bnd_s, req_p (by simp only [List.length_singleton]; omega), bnd_s]
  exact ⟨_, _, rfl, by simp only; rw [strOfNums_size, List.length_append, List.length_singleton]; omega, h2⟩
theorem spec_l04Units_ev (c : L01Cur) (hc : curOk c) : ∃ us c', spec_l04Units c = some (us, c') ∧ us.length ≤ 12 ∧ (∀ u ∈ us, u.size ≤ 1000000) ∧ curOk c' := by
 have hm : maxLen = 9223372036854775807 := rfl
 unfold spec_l04Units
 obtain ⟨o, e, o1, o2, o3⟩ := loop_inv (f := spec_l04Units_l2) (fun v => 0 ≤ v.1 ∧ v.1 ≤ 5 ∧ curOk ⟨v.2.1, v.2.2.1, v.2.2.2.1⟩ ∧ (v.2.2.2.2.length : Int) = v.1 ∧ ∀ u ∈ v.2.2.2.2, u.size ≤ 1000000) (fun v => (5 - v.1).toNat) (fun _ o => o.1.length ≤ 12 ∧ (∀ u ∈ o.1, u.size ≤ 1000000) ∧ curOk ⟨o.2.1, o.2.2.1, o.2.2.2⟩) (by
  intro ⟨i, b, j, h, l⟩ ⟨g1, g2, g3, g4, g5⟩
  unfold spec_l04Units_l2
  simp only at g1 g2 g3 g4 g5 ⊢
  obtain ⟨x, c1, e1, x0, x1, _, h1⟩ := spec_l01Below_ev _ 5 g3
  have x1' := x1 (by omega)
  rw [e1, bnd_s]
  simp only
  by_cases hi : i < x
  ·
   obtain ⟨s, c2, e2, s1, h2⟩ := spec_l04Text_ev c1 h1
   rw [sel_yes hi, e2, bnd_s, req_p (by simp only [List.length_singleton]; omega), wk (e := i + 1) (by omega) (by omega)]
   refine .inr ⟨_, rfl, ⟨by simp only; omega, by simp only; omega, h2, by simp; omega, fun u hu => ?_⟩, by simp only; omega, fun _ h => h⟩
   rcases List.mem_append.1 hu with hu | hu
   ·
    exact g5 u hu
   ·
    rw [List.mem_singleton.1 hu]; simp only; omega
  ·
   rw [sel_no hi]
   exact .inl ⟨_, rfl, by simp only; omega, g5, h1⟩) (0, c.b_, c.i_, c.h_, []) ⟨by simp, by simp, hc, by simp, (fun u hu => by simp at hu)⟩
 rw [e, bnd_s]
 exact ⟨_, _, rfl, o1, o2, o3⟩
def pkAt (s : ByteArray) (a : Int) (N m k : Nat) : Packet := ⟨seqPlus a k, decide (k = 0), decide (k + 1 = m), s.extract (k * N) (min ((k + 1) * N) s.size)⟩
def pkL (s : ByteArray) (a : Int) (N m : Nat) : List Packet := (List.range m).map (pkAt s a N m)
theorem pkL_len (s : ByteArray) (a : Int) (N m : Nat) : (pkL s a N m).length = m := by simp [pkL]
theorem pkL_at (s : ByteArray) (a : Int) (N m k : Nat) (hk : k < m) : (pkL s a N m).getD k dPacket = pkAt s a N m k := by
 rw [getD_at _ k (by rw [pkL_len]; exact hk)]
 simp [pkL]
theorem pk_facts (z N k : Nat) (hN : 1 ≤ N) (hk : k < (z + N - 1) / N) : k * N < z ∧ (k + 1 = (z + N - 1) / N ↔ z ≤ k * N + N) := by
 have h1 : (k + 1) * N ≤ z + N - 1 := (Nat.le_div_iff_mul_le (by omega)).1 hk
 have h2 : (k + 1) * N = k * N + N := Nat.succ_mul k N
 refine ⟨by omega, fun h => ?_, fun h => ?_⟩
 ·
  have h3 : ¬ k + 2 ≤ (z + N - 1) / N := by omega
  rw [Nat.le_div_iff_mul_le (by omega)] at h3
  have h4 : (k + 2) * N = k * N + N + N := by rw [Nat.add_mul]; omega
  omega
 ·
  have h3 : ¬ k + 2 ≤ (z + N - 1) / N := by
   rw [Nat.le_div_iff_mul_le (by omega)]
   have h4 : (k + 2) * N = k * N + N + N := by rw [Nat.add_mul]; omega
   omega
  omega
theorem pk_end (z N : Nat) (hN : 1 ≤ N) : z ≤ (z + N - 1) / N * N := by
 have h3 : ¬ (z + N - 1) / N + 1 ≤ (z + N - 1) / N := by omega
 rw [Nat.le_div_iff_mul_le (by omega), Nat.succ_mul] at h3
 omega
theorem pk_loop {f : Int × List Packet → Option (Lp (Int × List Packet) (List Packet))} (s : ByteArray) (a : Int) (N m : Nat) (hs : ∀ (k : Nat) (l : List Packet), k < m → l.length = k → f (((k * N : Nat) : Int), l) = some (.go ((((k + 1) * N : Nat) : Int), l ++ [pkAt s a N m k]))) (he : ∀ l, f (((m * N : Nat) : Int), l) = some (.done l)) : loop f (0, []) = some (pkL s a N m) := by
 have key : ∀ k : Nat, k ≤ m → loop f (((k * N : Nat) : Int), (List.range k).map (pkAt s a N m)) = some (pkL s a N m) := by
  refine down_to _ (ldone (he _)) ?_
  intro k hk ih
  refine lgo (hs k _ hk (by simp)) ?_
  rw [List.range_succ, List.map_append] at ih
  exact ih
 have := key 0 (by omega)
 rw [Nat.zero_mul] at this
 exact this
noncomputable def pkV (l : List ByteArray) (a n : Int) : List Packet × Bool := if (0 ≤ a ∧ a ≤ 65535) ∧ (1 ≤ n ∧ n ≤ 400) ∧ (frmV l).2 = true ∧ (frmV l).1.size ≠ 0 ∧ ((frmV l).1.size + n.toNat - 1) / n.toNat ≤ 60 then (pkL (frmV l).1 a n.toNat (((frmV l).1.size + n.toNat - 1) / n.toNat), true) else ([], false)
theorem pk_packet (s : ByteArray) (a : Int) (N k : Nat) (hN : 1 ≤ N) (hk : k < (s.size + N - 1) / N) (q : Int) (hq : q = ((min (k * N + N) s.size : Nat) : Int)) : (⟨seqPlus a k, (((k * N : Nat) : Int) == 0), (q == (s.size : Int)), s.extract ((k * N : Nat) : Int).toNat q.toNat⟩ : Packet) = pkAt s a N ((s.size + N - 1) / N) k := by
 obtain ⟨f1, f2⟩ := pk_facts s.size N k hN hk
 have e1 : (((k * N : Nat) : Int) == 0) = decide (k = 0) := by
  rw [Bool.eq_iff_iff, beq_iff_eq, decide_eq_true_eq]
  constructor
  ·
   intro h
   rcases Nat.eq_zero_or_pos k with h0 | h0
   ·
    exact h0
   ·
    have := Nat.mul_pos h0 (show 0 < N by omega); omega
  ·
   intro h; rw [h]; simp
 have e2 : (q == (s.size : Int)) = decide (k + 1 = (s.size + N - 1) / N) := by
  rw [Bool.eq_iff_iff, beq_iff_eq, decide_eq_true_eq, f2, hq]
  omega
 unfold pkAt
 rw [e1, e2, hq, Int.toNat_natCast, Int.toNat_natCast, Nat.succ_mul]
theorem count_eq (z : Nat) (n : Int) (hn : 1 ≤ n ∧ n ≤ 400) (hz : z ≤ 60000) : wrapK .i64 ((wrapK .i64 ((wrapK .i64 ((z : Int) + n)) - 1)).tdiv n) = (((z + n.toNat - 1) / n.toNat : Nat) : Int) := by
 obtain ⟨N, rfl⟩ : ∃ N : Nat, n = N := ⟨n.toNat, by omega⟩
 have h2 : (z + N - 1) / N ≤ z + N - 1 := Nat.div_le_self _ _
 have h3 : (0 : Int) ≤ ((z + N - 1 : Nat) : Int) / (N : Int) := Int.ediv_nonneg (by omega) (by omega)
 rw [wk (e := (z : Int) + N) (by omega) (by omega), wk (e := (z : Int) + N - 1) (by omega) (by omega), tdiv_pos (by omega), Int.toNat_natCast, show (z : Int) + N - 1 = ((z + N - 1 : Nat) : Int) by omega, ← Int.natCast_ediv, wk (by omega) (by omega)]
theorem spec_PacketsOf_eq (l : List ByteArray) (a n : Int) (hl : ∀ u ∈ l, u.size ≤ 9223372036854775807) : spec_PacketsOf l a n = some (pkV l a n) := by
 have hm : maxLen = 9223372036854775807 := rfl
 have hz := frmV_size l
 unfold spec_PacketsOf pkV
 rw [spec_l01In_eq, bnd_s, spec_l01In_eq, bnd_s, sel_nor, bnd_s]
 by_cases ha : 0 ≤ a ∧ a ≤ 65535
 ·
  by_cases hn : 1 ≤ n ∧ n ≤ 400
  ·
   rw [decide_eq_true ha, decide_eq_true hn, sel_neg (by rfl), spec_Framed_eq l hl, bnd_s]
   generalize frmV l = q at *
   obtain ⟨s, ok⟩ := q
   simp only at hz ⊢
   have cnt := count_eq s.size n hn hz
   cases ok with
   | false => rw [if_neg (by simp)]; rfl
   | true =>
    rw [sel_t]
    by_cases h0 : s.size = 0
    ·
     rw [sel_pos (by simp only [beq_iff_eq]; omega), bnd_s, sel_t, if_neg (fun h => h.2.2.2.1 h0)]
    ·
     rw [sel_neg (by rw [beq_eq_false_iff_ne]; omega), req_p (by omega), bnd_s, cnt]
     by_cases h6 : (s.size + n.toNat - 1) / n.toNat ≤ 60
     ·
      rw [sel_no (by omega), if_pos ⟨ha, hn, rfl, h0, h6⟩]
      obtain ⟨N, rfl⟩ : ∃ N : Nat, n = N := ⟨n.toNat, by omega⟩
      rw [Int.toNat_natCast] at h6 ⊢
      have hN : 1 ≤ N := by omega
      refine (bnd_e (pk_loop (f := spec_PacketsOf_l2 a N (s, true)) s a N ((s.size + N - 1) / N) ?_ ?_)).trans rfl
      ·
       intro k list hk hlen
       have hp := pk_packet s a N k hN hk
       obtain ⟨f1, _⟩ := pk_facts s.size N k hN hk
       have hsucc : (k + 1) * N = k * N + N := Nat.succ_mul k N
       rw [hsucc]
       generalize hT : k * N = T at *
       unfold spec_PacketsOf_l2
       simp only
       have hq : brought ((T : Int) + (N : Int)) 0 (s.size : Int) = ((min (T + N) s.size : Nat) : Int) := by unfold brought; split <;> (try split) <;> omega
       rw [sel_yes (by omega), wk (e := (T : Int) + (N : Int)) (by omega) (by omega), spec_Brought_eq, bnd_s, spec_SeqPlus_eq, bnd_s, req_p (by rw [hq]; omega), hlen, req_p (by simp only [List.length_singleton]; omega), hp _ hq]
       rfl
      ·
       intro list
       have := pk_end s.size N hN
       unfold spec_PacketsOf_l2
       rw [sel_no (by simp only; omega)]
     ·
      rw [sel_yes (by omega), if_neg (fun h => h6 h.2.2.2.2)]
  ·
   rw [decide_eq_false hn, sel_pos (by simp), if_neg (fun h => hn h.2.1)]
 ·
  rw [decide_eq_false ha, sel_pos (by simp), if_neg (fun h => ha h.1)]
theorem pkAt_ok (s : ByteArray) (a : Int) (N k : Nat) (hN : 1 ≤ N ∧ N ≤ 400) (hk : k < (s.size + N - 1) / N) (ha : 0 ≤ a ∧ a ≤ 65535) (m : Nat) : packetOk (pkAt s a N m k) = true := by
 obtain ⟨f1, _⟩ := pk_facts s.size N k hN.1 hk
 rw [packetOk_iff]
 unfold pkAt
 simp only
 have hsz : (s.extract (k * N) (min ((k + 1) * N) s.size)).size = min ((k + 1) * N) s.size - k * N := by rw [ByteArray.size_extract]; omega
 rw [hsz, Nat.succ_mul]
 have : 0 ≤ seqPlus a k ∧ seqPlus a k ≤ 65535 := by unfold seqPlus; split <;> omega
 omega
theorem pkV_cases (l : List ByteArray) (a n : Int) : pkV l a n = ([], false) ∨ ∃ s, frmV l = (s, true) ∧ s.size ≠ 0 ∧ (0 ≤ a ∧ a ≤ 65535) ∧ (1 ≤ n.toNat ∧ n.toNat ≤ 400) ∧ n = (n.toNat : Int) ∧ (s.size + n.toNat - 1) / n.toNat ≤ 60 ∧ pkV l a n = (pkL s a n.toNat ((s.size + n.toNat - 1) / n.toNat), true) := by
 unfold pkV
 by_cases h : (0 ≤ a ∧ a ≤ 65535) ∧ (1 ≤ n ∧ n ≤ 400) ∧ (frmV l).2 = true ∧ (frmV l).1.size ≠ 0 ∧ ((frmV l).1.size + n.toNat - 1) / n.toNat ≤ 60
 ·
  rw [if_pos h]
  exact Or.inr ⟨(frmV l).1, Prod.ext rfl h.2.2.1, h.2.2.2.1, h.1, by omega, by omega, h.2.2.2.2, rfl⟩
 ·
  rw [if_neg h]; exact Or.inl rfl
theorem spec_l22List_ev (c : L01Cur) (hc : curOk c) : ∃ us a n c', spec_l22List c = some ((pkV us a n).1, c') ∧ curOk c' := by
 unfold spec_l22List
 obtain ⟨us1, c1, e1, _, g1, h1⟩ := spec_l04Units_ev c hc
 obtain ⟨b, c2, e2, h2⟩ := spec_l01Once_ev c1 2 h1
 rw [e1, bnd_s]
 simp only
 rw [e2, bnd_s]
 simp only
 have hv : ∃ (us : List ByteArray) (c3 : L01Cur), (sel b (bnd (spec_l19Right c2) fun q4 => some (q4.2.2.b_, q4.2.2.i_, q4.2.2.h_, q4.2.1)) (some (c2.b_, c2.i_, c2.h_, us1))) = some (c3.b_, c3.i_, c3.h_, us) ∧ (∀ u ∈ us, u.size ≤ 1000000) ∧ curOk c3 := by
  cases b with
  | true =>
   obtain ⟨s, us, c3, e3, _, g3, h3⟩ := spec_l19Right_ev c2 h2
   rw [sel_t, e3, bnd_s]
   exact ⟨us, c3, rfl, g3, h3⟩
  | false => exact ⟨us1, c2, rfl, g1, h2⟩
 obtain ⟨us, c3, e3, g3, h3⟩ := hv
 rw [e3, bnd_s]
 simp only
 obtain ⟨a, c4, e4, a0, a1, h4⟩ := spec_l22Seq_ev (⟨c3.b_, c3.i_, c3.h_⟩ : L01Cur) h3
 obtain ⟨n, c5, e5, _, h5⟩ := spec_l01PickInt_ev c4 [2, 9, 40, 100, 400] h4 (by decide) (by decide)
 rw [e4, bnd_s]
 simp only
 rw [e5, bnd_s]
 simp only
 rw [spec_PacketsOf_eq us a n (fun u hu => by have := g3 u hu; omega), bnd_s]
 exact ⟨us, a, n, _, rfl, h5⟩
theorem spec_DrawPicture_ev (b : List Int) (hb : b.length ≤ 1048576) : ∃ l, spec_DrawPicture b = some l ∧ (l = [] ∨ ∃ us s a N, frmV us = (s, true) ∧ s.size ≠ 0 ∧ (0 ≤ a ∧ a ≤ 65535) ∧ (1 ≤ N ∧ N ≤ 400) ∧ (2 ≤ (s.size + N - 1) / N ∧ (s.size + N - 1) / N ≤ 24) ∧ l = pkL s a N ((s.size + N - 1) / N)) := by
 unfold spec_DrawPicture
 obtain ⟨c, e, hc⟩ := spec_l01New_ev b hb
 obtain ⟨us, a, n, c1, e1, _⟩ := spec_l22List_ev c hc
 rw [e, bnd_s, e1, bnd_s]
 simp only
 rw [sel_or, bnd_s]
 rcases pkV_cases us a n with hp | ⟨s, f1, f2, f3, f4, f5, f6, hp⟩
 ·
  rw [hp]
  exact ⟨[], rfl, Or.inl rfl⟩
 ·
  rw [hp]
  simp only
  rw [pkL_len]
  cases hcnd : (decide ((((s.size + n.toNat - 1) / n.toNat : Nat) : Int) < 2) || decide ((((s.size + n.toNat - 1) / n.toNat : Nat) : Int) > 24)) with
  | true => exact ⟨[], rfl, Or.inl rfl⟩
  | false =>
   rw [Bool.or_eq_false_iff, decide_eq_false_iff_not, decide_eq_false_iff_not] at hcnd
   exact ⟨_, rfl, Or.inr ⟨us, s, a, n.toNat, f1, f2, f3, f4, by omega, rfl⟩⟩
theorem pk_gap (s : ByteArray) (a : Int) (N m k : Nat) (ha : 0 ≤ a ∧ a ≤ 65535) (hk : k < 24) : seqGap a (pkAt s a N m k).Seq = k := by
 show seqGap a (seqPlus a k) = k
 unfold seqPlus
 rw [if_pos (by omega)]
 unfold seqGap
 rw [if_pos (by omega)]
 repeat' split
 all_goals omega
def heldS (s : ByteArray) (a : Int) (N m : Nat) (S : Nat → Bool) : List Packet := ((List.range m).filter S).map (pkAt s a N m)
def inQueue (s : ByteArray) (a : Int) (N m : Nat) (S : Nat → Bool) : Queue := ⟨true, a, 0, heldS s a N m S, 0, 0, 0, 0, 0⟩
theorem heldOk_pk (s : ByteArray) (a : Int) (N m : Nat) (ha : 0 ≤ a ∧ a ≤ 65535) (hm : m ≤ 24) (pok : ∀ k, k < m → packetOk (pkAt s a N m k) = true) : ∀ (l : List Nat) (last : Int), l.Pairwise (· < ·) → (∀ k ∈ l, k < m) → (∀ k ∈ l, last < (k : Int)) → heldOk a last (l.map (pkAt s a N m)) = true
 | [], _, _, _, _ => rfl
 | x :: r, last, h1, h2, h3 => by
  have hx := h2 x (List.mem_cons_self)
  have g := pk_gap s a N m x ha (by omega)
  rw [List.pairwise_cons] at h1
  rw [List.map_cons, heldOk, g, pok x hx, Bool.true_and, Bool.and_eq_true, decide_eq_true_eq]
  refine ⟨⟨h3 x (List.mem_cons_self), by omega⟩, heldOk_pk s a N m ha hm pok r x h1.2 (fun k hk => h2 k (List.mem_cons_of_mem _ hk)) (fun k hk => ?_)⟩
  have := h1.1 k hk
  omega
theorem held_mem {m : Nat} {S : Nat → Bool} : ∀ k ∈ (List.range m).filter S, k < m := fun k hk => List.mem_range.1 (List.mem_filter.1 hk).1
theorem held_len (s : ByteArray) (a : Int) (N m : Nat) (S : Nat → Bool) : (heldS s a N m S).length ≤ m := by
 unfold heldS
 rw [List.length_map]
 have := List.length_filter_le S (List.range m)
 rwa [List.length_range] at this
theorem inQueue_ok (s : ByteArray) (a : Int) (N m : Nat) (ha : 0 ≤ a ∧ a ≤ 65535) (hm : m ≤ 24) (pok : ∀ k, k < m → packetOk (pkAt s a N m k) = true) (S : Nat → Bool) : queueOk (inQueue s a N m S) = true := by
 rw [queueOk_begun rfl]
 have := held_len s a N m S
 have c0 : cnt 0 = true := by decide
 refine ⟨⟨ha.1, ha.2, Int.le_refl 0, (show (0 : Int) ≤ 20 by decide), by show (heldS s a N m S).length ≤ 24; omega⟩, ?_, cnts_of c0 c0 c0 c0 c0⟩
 exact heldOk_pk s a N m ha hm pok _ (-1) (List.Pairwise.filter _ List.pairwise_lt_range) held_mem (fun k _ => by omega)
theorem has_pk (s : ByteArray) (a : Int) (N m k : Nat) (ha : 0 ≤ a ∧ a ≤ 65535) (hm : m ≤ 24) (hk : k < m) (S : Nat → Bool) : hasSeq (pkAt s a N m k).Seq (heldS s a N m S) = S k := by
 unfold hasSeq heldS
 rw [List.any_map]
 cases hS : S k with
 | true =>
  rw [List.any_eq_true]
  exact ⟨k, List.mem_filter.2 ⟨List.mem_range.2 hk, hS⟩, by simp⟩
 | false =>
  rw [List.any_eq_false]
  intro j hj
  have hjm := held_mem j hj
  have hjS := (List.mem_filter.1 hj).2
  simp only [Function.comp_apply, beq_iff_eq]
  intro e
  have g1 := pk_gap s a N m j ha (by omega)
  have g2 := pk_gap s a N m k ha (by omega)
  rw [e, g2] at g1
  have : k = j := by omega
  rw [this, hjS] at hS
  cases hS
theorem put_pk (s : ByteArray) (a : Int) (N m k : Nat) (ha : 0 ≤ a ∧ a ≤ 65535) (hm : m ≤ 24) (hk : k < m) (S : Nat → Bool) (hS : S k = false) : ∀ l : List Nat, l.Pairwise (· < ·) → (∀ j ∈ l, j < m) → k ∈ l → putL a k (pkAt s a N m k) ((l.filter S).map (pkAt s a N m)) = (l.filter fun j => S j || j == k).map (pkAt s a N m)
 | [], _, _, h => by simp at h
 | x :: r, h1, h2, h3 => by
  rw [List.pairwise_cons] at h1
  have hx := h2 x (List.mem_cons_self)
  by_cases e : x = k
  ·
   subst e
   have hr : r.filter (fun j => S j || j == x) = r.filter S := by
    refine List.filter_congr fun j hj => ?_
    have := h1.1 j hj
    have : (j == x) = false := by rw [beq_eq_false_iff_ne]; omega
    rw [this, Bool.or_false]
   rw [List.filter_cons, hS, List.filter_cons, hS, hr]
   simp only [Bool.false_or, beq_self_eq_true, if_true, if_false, Bool.false_eq_true]
   have big : ∀ j ∈ r.filter S, x < j := fun j hj => h1.1 j (List.mem_filter.1 hj).1
   have small : ∀ j ∈ r.filter S, j < m := fun j hj => h2 j (List.mem_cons_of_mem _ (List.mem_filter.1 hj).1)
   cases hc : r.filter S with
   | nil => rfl
   | cons y t =>
    have hy := big y (by rw [hc]; exact List.mem_cons_self)
    have hym := small y (by rw [hc]; exact List.mem_cons_self)
    rw [List.map_cons, putL, pk_gap s a N m y ha (by omega), if_pos (by omega), List.map_cons, List.map_cons]
  ·
   have hkr : k ∈ r := by
    rcases List.mem_cons.1 h3 with h | h
    ·
     exact absurd h.symm e
    ·
     exact h
   have hlt := h1.1 k hkr
   have ih := put_pk s a N m k ha hm hk S hS r h1.2 (fun j hj => h2 j (List.mem_cons_of_mem _ hj)) hkr
   have hb : (x == k) = false := by rw [beq_eq_false_iff_ne]; exact e
   rw [List.filter_cons, List.filter_cons, hb, Bool.or_false]
   cases hx' : S x with
   | true =>
    simp only [if_true]
    rw [List.map_cons, putL, pk_gap s a N m x ha (by omega), if_neg (by omega), ih, List.map_cons]
   | false =>
    simp only [Bool.false_eq_true, if_false]
    exact ih
theorem qin_pk (s : ByteArray) (a : Int) (N m k : Nat) (ha : 0 ≤ a ∧ a ≤ 65535) (hm : m ≤ 24) (pok : ∀ k, k < m → packetOk (pkAt s a N m k) = true) (hk : k < m) (S : Nat → Bool) (hS : S k = false) : qin (inQueue s a N m S) (pkAt s a N m k) = (inQueue s a N m (fun j => S j || j == k), 0) := by
 have g := pk_gap s a N m k ha (by omega)
 have hlt : (heldS s a N m S).length < 24 := by
  have : ((List.range m).filter S).length < (List.range m).length := by
   rw [List.length_filter_lt_length_iff_exists]
   exact ⟨k, List.mem_range.2 hk, by rw [hS]; decide⟩
  unfold heldS
  rw [List.length_map]
  rw [List.length_range] at this
  omega
 unfold qin
 rw [if_pos (inQueue_ok s a N m ha hm pok S), if_pos (pok k hk), if_pos (show (inQueue s a N m S).Begun = true from rfl)]
 show (if seqGap a (pkAt s a N m k).Seq ≥ 40 ∨ seqGap a (pkAt s a N m k).Seq < -40 then _ else if seqGap a (pkAt s a N m k).Seq < 0 then _ else if hasSeq (pkAt s a N m k).Seq (heldS s a N m S) = true then _ else if (heldS s a N m S).length < 24 then _ else _) = _
 rw [g, if_neg (by omega), if_neg (by omega), has_pk s a N m k ha hm hk S, hS, if_neg (by decide), if_pos hlt]
 unfold putQ inQueue
 simp only
 rw [g]
 unfold heldS
 rw [put_pk s a N m k ha hm hk S hS _ List.pairwise_lt_range (fun j hj => List.mem_range.1 hj) (List.mem_range.2 hk)]
theorem ready_pk (s : ByteArray) (a : Int) (N m : Nat) : ∀ n j, j + n = m → 0 < n → readyN a j ((List.range' j n).map (pkAt s a N m)) = m
 | 0, j, _, h => by omega
 | n + 1, j, hj, _ => by
  rw [List.range'_succ, List.map_cons, readyN, if_pos (show (pkAt s a N m j).Seq = seqPlus a j from rfl)]
  by_cases h : j + 1 = m
  ·
   rw [if_pos (show (pkAt s a N m j).Last = true from by unfold pkAt; simpa using h), h]
  ·
   rw [if_neg (show ¬ (pkAt s a N m j).Last = true from by unfold pkAt; simpa using h)]
   exact ready_pk s a N m n (j + 1) (by omega) (by omega)
theorem inOrder_rest (rs : List Nat) (k : Nat) (hk : k < rs.length) (hn : rs.Nodup) (j : Nat) : (!(rs.take k ++ rs.drop (k + 1)).contains j) = (!rs.contains j || j == rs.getD k 0) := by
 have hsplit : rs = rs.take k ++ rs.getD k 0 :: rs.drop (k + 1) := by
  rw [← drop_at rs k hk 0, List.take_append_drop]
 generalize rs.getD k 0 = r at *
 generalize rs.take k = A at *
 generalize rs.drop (k + 1) = B at *
 subst hsplit
 rw [List.nodup_append] at hn
 obtain ⟨n1, n2, n3⟩ := hn
 rw [List.nodup_cons] at n2
 rw [Bool.eq_iff_iff]
 simp only [Bool.not_eq_true', Bool.or_eq_true, beq_iff_eq, List.contains_eq_mem, decide_eq_false_iff_not, List.mem_append, List.mem_cons]
 constructor
 ·
  intro h
  by_cases e : j = r
  ·
   exact Or.inr e
  ·
   exact Or.inl (fun h' => h (by
    rcases h' with h' | h' | h'
    ·
     exact Or.inl h'
    ·
     exact absurd h' e
    ·
     exact Or.inr h'))
 ·
  intro h h'
  rcases h with h | h
  ·
   exact h (by
    rcases h' with h' | h'
    ·
     exact Or.inl h'
    ·
     exact Or.inr (Or.inr h'))
  ·
   subst h
   rcases h' with h' | h'
   ·
    exact n3 _ h' _ (List.mem_cons_self) rfl
   ·
    exact n2.1 h'
theorem inOrder_loop (s : ByteArray) (a : Int) (N m : Nat) (ha : 0 ≤ a ∧ a ≤ 65535) (hm : m ≤ 24) (pok : ∀ k, k < m → packetOk (pkAt s a N m k) = true) (q3 : List Int) (h12 : q3.length = 12) (h3 : ∀ x ∈ q3, 0 ≤ x ∧ x < 10000) :
  ∀ (n : Nat) (i : Int) (rs : List Nat), rs.length = n → 0 ≤ i → i + n ≤ 24 → rs.Nodup → (∀ r ∈ rs, r < m) →
   loop (laws_FnInOrder_l2 q3) (i, true, a, 0, 0, 0, 0, 0, 0, rs.map (pkAt s a N m), heldS s a N m (fun j => !rs.contains j)) = some (.out (true, a, 0, 0, 0, 0, 0, 0, heldS s a N m (fun _ => true)))
 | 0, i, rs, hl, h0, h1, hnd, hlt => by
  have : rs = [] := List.eq_nil_of_length_eq_zero hl
  subst this
  refine ldone ?_
  unfold laws_FnInOrder_l2
  rw [sel_no (by simp)]
  rfl
 | n + 1, i, rs, hl, h0, h1, hnd, hlt => by
  have hmx : maxLen = 9223372036854775807 := rfl
  have hq : 0 ≤ q3.getD (i.tmod 12).toNat 0 := by
   rw [tmod_pos h0]
   exact (h3 _ (by rw [getD_at q3 _ (by omega)]; exact List.getElem_mem _)).1
  have hz : (q3.getD (i.tmod 12).toNat 0).tmod (rs.length : Int) = (((q3.getD (i.tmod 12).toNat 0).toNat % rs.length : Nat) : Int) := by
   obtain ⟨t, ht⟩ : ∃ t : Nat, q3.getD (i.tmod 12).toNat 0 = t := ⟨(q3.getD (i.tmod 12).toNat 0).toNat, by omega⟩
   rw [tmod_pos hq, ht, Int.toNat_natCast]
   rfl
  have hk : (q3.getD (i.tmod 12).toNat 0).toNat % rs.length < rs.length := Nat.mod_lt _ (by omega)
  generalize hkk : (q3.getD (i.tmod 12).toNat 0).toNat % rs.length = k at *
  have hat : (rs.map (pkAt s a N m)).getD k dPacket = pkAt s a N m (rs.getD k 0) := by
   rw [getD_at _ k (by rw [List.length_map]; exact hk), List.getElem_map, getD_at rs k hk]
  have hmem : rs.getD k 0 ∈ rs := by rw [getD_at rs k hk]; exact List.getElem_mem _
  have hr := hlt _ hmem
  have hS : (!rs.contains (rs.getD k 0)) = false := by rw [List.contains_eq_mem, decide_eq_true hmem]; rfl
  have qi := qin_pk s a N m (rs.getD k 0) ha hm pok hr (fun j => !rs.contains j) hS
  have hfun : (fun j => (!rs.contains j) || j == rs.getD k 0) = fun j => !(rs.take k ++ rs.drop (k + 1)).contains j := by
   funext j; exact (inOrder_rest rs k hk hnd j).symm
  rw [hfun] at qi
  have hasq : hasSeq (pkAt s a N m (rs.getD k 0)).Seq (heldS s a N m (fun j => !(rs.take k ++ rs.drop (k + 1)).contains j)) = true := by
   rw [has_pk s a N m _ ha hm hr, inOrder_rest rs k hk hnd]
   simp
  have hl24 := held_len s a N m (fun j => !rs.contains j)
  have hsub : (rs.take k ++ rs.drop (k + 1)).Sublist rs := by
   have := List.eraseIdx_sublist rs k
   rwa [List.eraseIdx_eq_take_drop_succ] at this
  have ih := inOrder_loop s a N m ha hm pok q3 h12 h3 n (i + 1) (rs.take k ++ rs.drop (k + 1)) (by rw [List.length_append, List.length_take, List.length_drop]; omega) (by omega) (by omega) (hsub.nodup hnd) (fun r hr => hlt r (hsub.mem hr))
  refine lgo ?_ ih
  unfold laws_FnInOrder_l2
  simp only [List.length_map, hz, Int.toNat_natCast]
  rw [sel_yes (by omega), req_p (by omega), req_p (by rw [tmod_pos h0]; omega), req_p (by rw [tmod_pos h0]; omega), req_p (by omega), req_p (by omega), req_p (by omega)]
  simp only [hat]
  rw [show (⟨true, a, 0, heldS s a N m (fun j => !rs.contains j), 0, 0, 0, 0, 0⟩ : Queue) = inQueue s a N m (fun j => !rs.contains j) from rfl, show (⟨(pkAt s a N m (rs.getD k 0)).Seq, (pkAt s a N m (rs.getD k 0)).First, (pkAt s a N m (rs.getD k 0)).Last, (pkAt s a N m (rs.getD k 0)).Bytes⟩ : Packet) = pkAt s a N m (rs.getD k 0) from rfl, impl_QueueIn_eq _ _ (by show (heldS s a N m _).length ≤ _; omega), bnd_s, qi]
  simp only
  rw [sel_neg (by rfl), req_p (by omega), req_p (by omega), impl_QueueHas_eq, bnd_s, inQueue_ok s a N m ha hm pok, Bool.true_and, show (inQueue s a N m (fun j => !(rs.take k ++ rs.drop (k + 1)).contains j)).Held = heldS s a N m (fun j => !(rs.take k ++ rs.drop (k + 1)).contains j) from rfl, hasq, Bool.not_true, bnd_s, sel_f]
  rw [show (0 : Int).toNat = 0 from rfl, List.drop_zero, Nat.sub_zero, List.nil_append, wk (e := (k : Int) + 1) (by omega) (by omega), show ((k : Int) + 1).toNat = k + 1 by omega, wk (e := i + 1) (by omega) (by omega)]
  have tk : ((rs.map (pkAt s a N m)).drop (k + 1)).take (rs.length - (k + 1)) = (rs.map (pkAt s a N m)).drop (k + 1) := List.take_of_length_le (by rw [List.length_drop, List.length_map]; omega)
  rw [tk, req_p (by omega), req_p (by rw [List.length_take, List.length_map]; simp only [List.length_nil]; omega), req_p (by omega), req_p (by rw [List.length_take, List.length_drop, List.length_map]; omega), ← List.map_take, ← List.map_drop, ← List.map_append]
  rfl
theorem FnInOrder {p0 : List Int} (h0 : p0.length ≤ maxLen ∧ ∀ y ∈ p0, (Lit.int .u8 y).wf = true) : laws_FnInOrder p0 = some true := by
 have hmx : maxLen = 9223372036854775807 := rfl
 unfold laws_FnInOrder
 rw [laws_big_eq, bnd_s]
 by_cases hb : (p0.length : Int) > 1048576
 ·
  rw [sel_yes hb]
 rw [sel_no hb]
 obtain ⟨l, el, hl⟩ := spec_DrawPicture_ev p0 (by omega)
 obtain ⟨q3, e3, h12, h3⟩ := spec_DrawPlaces_ev p0 (by omega)
 rw [el, bnd_s, e3, bnd_s]
 rcases hl with rfl | ⟨us, s, a, N, f1, f2, ha, f4, f5, rfl⟩
 ·
  rfl
 have hlen := pkL_len s a N ((s.size + N - 1) / N)
 have pok := fun k hk => pkAt_ok s a N k f4 hk ha ((s.size + N - 1) / N)
 have hat := pkL_at s a N ((s.size + N - 1) / N)
 generalize hM : (s.size + N - 1) / N = m at *
 have at0 := hat 0 (by omega)
 have sq0 : (pkAt s a N m 0).Seq = a := by unfold pkAt seqPlus; simp only; rw [if_pos (by omega)]; omega
 have pk0 := pok 0 (by omega)
 have qi : qin (⟨false, 0, 0, [], 0, 0, 0, 0, 0⟩ : Queue) (pkAt s a N m 0) = (⟨true, a, 0, [pkAt s a N m 0], 0, 0, 0, 0, 0⟩, 0) := by
  unfold qin
  rw [if_pos (show queueOk (⟨false, 0, 0, [], 0, 0, 0, 0, 0⟩ : Queue) = true from rfl), if_pos pk0, if_neg (show ¬ (⟨false, 0, 0, [], 0, 0, 0, 0, 0⟩ : Queue).Begun = true from by decide), sq0]
 have hr0 : List.range m = 0 :: (List.range m).drop 1 := by
  have : ∀ m, 1 ≤ m → List.range m = 0 :: (List.range m).drop 1 := by
   intro m hm
   obtain ⟨n, rfl⟩ : ∃ n, m = n + 1 := ⟨m - 1, by omega⟩
   rw [List.range_succ_eq_map]
   rfl
  exact this m (by omega)
 have hheld : heldS s a N m (fun j => !((List.range m).drop 1).contains j) = [pkAt s a N m 0] := by
  have hnd : (List.range m).Nodup := List.nodup_range
  unfold heldS
  rw [hr0] at hnd
  rw [List.nodup_cons] at hnd
  have h2 : ∀ D : List Nat, ¬ 0 ∈ D → (0 :: D).filter (fun j => !D.contains j) = [0] := by
   intro D hD
   have c0 : (!D.contains 0) = true := by rw [List.contains_eq_mem, decide_eq_false hD]; rfl
   have c1 : D.filter (fun j => !D.contains j) = [] := by
    rw [List.filter_eq_nil_iff]
    intro j hj
    rw [List.contains_eq_mem, decide_eq_true hj]; decide
   rw [List.filter_cons, c0, if_pos rfl, c1]
  have h4 := h2 _ hnd.1
  rw [← hr0] at h4
  rw [h4]; rfl
 rw [sel_neg (by rw [beq_eq_false_iff_ne]; omega), req_p (by omega), req_p (by omega), show (0 : Int).toNat = 0 from rfl, at0, show (⟨(pkAt s a N m 0).Seq, (pkAt s a N m 0).First, (pkAt s a N m 0).Last, (pkAt s a N m 0).Bytes⟩ : Packet) = pkAt s a N m 0 from rfl, impl_QueueIn_eq _ _ (by simp), bnd_s, qi]
 simp only
 rw [sel_neg (by rfl), req_p (by omega), show (1 : Int).toNat = 1 from rfl, Int.toNat_natCast]
 have tk : ((pkL s a N m).drop 1).take ((pkL s a N m).length - 1) = (pkL s a N m).drop 1 := List.take_of_length_le (by rw [List.length_drop]; omega)
 rw [tk, List.nil_append, req_p (by rw [List.length_drop]; simp only [List.length_nil]; omega)]
 have hdrop : (pkL s a N m).drop 1 = ((List.range m).drop 1).map (pkAt s a N m) := by unfold pkL; rw [List.map_drop]
 have lp := inOrder_loop s a N m ha f5.2 pok q3 h12 h3 (m - 1) 0 ((List.range m).drop 1) (by rw [List.length_drop, List.length_range]) (by omega) (by omega) ((List.drop_sublist 1 _).nodup List.nodup_range) (fun r hr => List.mem_range.1 (List.mem_of_mem_drop hr))
 rw [hheld] at lp
 rw [hdrop, lp, bnd_s]
 simp only
 have hall : heldS s a N m (fun _ => true) = pkL s a N m := by unfold heldS pkL; rw [List.filter_eq_self.2 (fun _ _ => rfl)]
 have qok := inQueue_ok s a N m ha f5.2 pok (fun _ => true)
 have rdy : readyN a 0 (pkL s a N m) = m := by
  have := ready_pk s a N m m 0 (by omega) (by omega)
  rw [← List.range_eq_range'] at this
  exact this
 have qt : qtick (inQueue s a N m (fun _ => true)) 0 = (⟨true, seqPlus a m, 0, [], 0, 0, 0, 0, 0⟩, pkL s a N m, 1) := by
  unfold qtick
  rw [if_pos ⟨qok, by omega, by omega⟩]
  have hH : (inQueue s a N m (fun _ => true)).Held = pkL s a N m := hall
  have hN : (inQueue s a N m (fun _ => true)).Next = a := rfl
  rw [hH, hN, rdy, if_pos (by omega), List.drop_eq_nil_of_le (by omega), List.take_of_length_le (by omega)]
  rfl
 have okt : queueOk (qtick (inQueue s a N m (fun _ => true)) 0).1 = true := qtick_ok qok
 rw [show (⟨true, a, 0, heldS s a N m (fun _ => true), 0, 0, 0, 0, 0⟩ : Queue) = inQueue s a N m (fun _ => true) from rfl, impl_QueueTick_eq _ _ (by show (heldS s a N m _).length ≤ _; rw [hall]; omega), bnd_s]
 rw [qt] at okt ⊢
 simp only
 rw [wk (e := ((pkL s a N m).length : Int) - 1) (by omega) (by omega), show (((pkL s a N m).length : Int) - 1).toNat = m - 1 by omega, hat (m - 1) (by omega), impl_SeqPlus_eq, bnd_s]
 have sl : seqPlus (pkAt s a N m (m - 1)).Seq 1 = seqPlus a m := by
  have h1 : (pkAt s a N m (m - 1)).Seq = seqPlus a ((m - 1 : Nat) : Int) := rfl
  rw [h1, seqPlus_one ha (by omega), show ((m - 1 + 1 : Nat) : Int) = (m : Int) by omega]
 rw [sl, sel_pos (by rfl), laws_samePackets_self _ (by omega), bnd_s, sel_t, sel_pos (by rfl), req_p (by omega), req_p (by omega), beq_self_eq_true, sel_t, impl_QueueOk_eq, okt, bnd_s, bnd_s]
end Go.Proofs.YtgmcephkajhfjaaGreat.A.Pure
