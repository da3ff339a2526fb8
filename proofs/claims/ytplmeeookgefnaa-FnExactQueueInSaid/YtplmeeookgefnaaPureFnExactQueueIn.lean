/- The pure statement of the law FnExactQueueIn: over numbers, texts and lists alone, what the law computes is true. Conditions: the sizes of what a machine holds. -/
import Derived.Test.YtplmeeookgefnaaDFnExactQueueIn
namespace Go.Proofs.Ytplmeeookgefnaa.Pure
open Go Go.Proofs Go.Proofs.YtplmeeookgefnaaAL Go.RowKit Go.Proofs.Ytplmeeookgefnaa.A
set_option linter.unusedVariables false
set_option linter.unusedSimpArgs false
set_option maxHeartbeats 1000000
theorem bnd_s {α β : Type} (a : α) (f : α → Option β) : bnd (some a) f = f a := rfl
theorem sel_t {β : Type} (x y : β) : sel true x y = x := rfl
theorem sel_f {β : Type} (x y : β) : sel false x y = y := rfl
theorem sel_n {β : Type} (b : Bool) (x y : β) : sel (!b) x y = sel b y x := by cases b <;> rfl
theorem sel_and (b x : Bool) : sel b (some x) (some false) = some (b && x) := by cases b <;> rfl
theorem sel_or (b x : Bool) : sel b (some true) (some x) = some (b || x) := by cases b <;> rfl
theorem sel_nor (b x : Bool) : sel b (some x) (some true) = some (!b || x) := by cases b <;> rfl
theorem sel_d {β : Type} (p : Prop) [Decidable p] (x y : β) : sel (decide p) x y = if p then x else y := by
  by_cases h : p <;> simp [h, sel]
theorem sel_pos {β : Type} {b : Bool} {x y : β} (h : b = true) : sel b x y = x := by subst h; rfl
theorem sel_neg {β : Type} {b : Bool} {x y : β} (h : b = false) : sel b x y = y := by subst h; rfl
theorem sel_yes {β : Type} {p : Prop} [Decidable p] {x y : β} (h : p) : sel (decide p) x y = x := by simp [h, sel]
theorem sel_no {β : Type} {p : Prop} [Decidable p] {x y : β} (h : ¬ p) : sel (decide p) x y = y := by simp [h, sel]
theorem req_p {β : Type} {c : Prop} [Decidable c] {k : Option β} (h : c) : req c k = k := if_pos h
theorem wk {e : Int} (h1 : -9223372036854775808 ≤ e) (h2 : e ≤ 9223372036854775807) : wrapK .i64 e = e := by
  show wrap64 e = e
  unfold wrap64; omega
theorem tmod_pos {a b : Int} (h : 0 ≤ a) : Int.tmod a b = a % b := Int.tmod_eq_emod_of_nonneg h
theorem tdiv_pos {a b : Int} (h : 0 ≤ a) : Int.tdiv a b = a / b := Int.tdiv_eq_ediv_of_nonneg h
theorem down_to {P : Nat → Prop} (n : Nat) (h0 : P n) (hs : ∀ i, i < n → P (i + 1) → P i) : ∀ i, i ≤ n → P i := by
  intro i hi
  obtain ⟨k, rfl⟩ : ∃ k, n = i + k := ⟨n - i, by omega⟩
  clear hi
  induction k generalizing i with
  | zero => exact h0
  | succ k ih =>
    refine hs i (by omega) ?_
    exact ih (i + 1) (by rw [show i + 1 + k = i + (k + 1) by omega]; exact h0) (fun j hj => hs j (by omega))
theorem lgo {V O : Type} {f : V → Option (Lp V O)} {x y : V} {r : Option O} (h : f x = some (.go y)) (k : loop f y = r) : loop f x = r := by rw [loop_go h]; exact k
theorem ldone {V O : Type} {f : V → Option (Lp V O)} {x : V} {o : O} (h : f x = some (.done o)) : loop f x = some o := loop_done h
theorem loop_inv {V O : Type} {f : V → Option (Lp V O)} (I : V → Prop) (m : V → Nat) (Q : V → O → Prop) (h : ∀ v, I v → (∃ o, f v = some (.done o) ∧ Q v o) ∨ ∃ v', f v = some (.go v') ∧ I v' ∧ m v' < m v ∧ ∀ o, Q v' o → Q v o) : ∀ v, I v → ∃ o, loop f v = some o ∧ Q v o := by
  intro v
  generalize hn : m v = n
  induction n using Nat.strongRecOn generalizing v with
  | _ n ih =>
    intro hv
    rcases h v hv with ⟨o, h1, h2⟩ | ⟨v', h1, h2, h3, h4⟩
    · exact ⟨o, loop_done h1, h2⟩
    · obtain ⟨o, h5, h6⟩ := ih (m v') (by omega) v' rfl h2
      exact ⟨o, by rw [loop_go h1]; exact h5, h4 o h6⟩
theorem getD_at {α : Type} (l : List α) (i : Nat) (h : i < l.length) (d : α) : l.getD i d = l[i] := by
  simp [List.getD_eq_getElem?_getD, List.getElem?_eq_getElem h]
theorem impl_within_eq (a b c : Int) : impl_within a b c = some (decide (b ≤ a ∧ a ≤ c)) := by
  unfold impl_within
  by_cases h : b ≤ a <;> simp [bnd, sel, h]
theorem spec_l01In_eq (a b c : Int) : spec_l01In a b c = some (decide (b ≤ a ∧ a ≤ c)) := by
  unfold spec_l01In
  by_cases h : b ≤ a <;> simp [bnd, sel, h]
theorem impl_isNumber_eq (a : Int) : impl_isNumber a = some (decide (0 ≤ a ∧ a ≤ 65535)) := by
  unfold impl_isNumber; rw [impl_within_eq]; rfl
theorem set_mid {α : Type} (a : List α) (x y : α) (b : List α) : (a ++ x :: b).set a.length y = a ++ y :: b := by
  induction a with
  | nil => rfl
  | cons z a ih => simp only [List.cons_append, List.length_cons, List.set_cons_succ, ih]
theorem getD_mid {α : Type} (a : List α) (x d : α) (b : List α) : (a ++ x :: b).getD a.length d = x := by
  induction a with
  | nil => rfl
  | cons z a ih => simp
theorem fill_loop {α β : Type} (l : List α) (g : α → β) (d : α) (e : β) {f : (Int × List β) → Option (Lp (Int × List β) (List β))}
    (h : ∀ (i : Nat) (o : List β), i < l.length → o.length = l.length → f ((i : Int), o) = some (.go (((i + 1 : Nat) : Int), o.set i (g (l.getD i d))))) (h0 : ∀ o, f ((l.length : Int), o) = some (.done o)) : loop f (0, List.replicate l.length e) = some (l.map g) := by
  have key : ∀ (r a : List α), l = a ++ r → loop f ((a.length : Int), a.map g ++ List.replicate r.length e) = some (l.map g) := by
    intro r
    induction r with
    | nil =>
      intro a ha
      rw [List.append_nil] at ha
      subst ha
      rw [loop_done (h0 _)]; simp
    | cons x r ih =>
      intro a ha
      have hlen : a.length < l.length := by rw [ha]; simp
      rw [loop_go (h a.length _ hlen (by rw [ha]; simp))]
      have e1 : l.getD a.length d = x := by rw [ha]; exact getD_mid a x d r
      have e2 : (a.map g ++ List.replicate (x :: r).length e).set a.length (g x) = (a ++ [x]).map g ++ List.replicate r.length e := by
        have := set_mid (a.map g) e (g x) (List.replicate r.length e)
        rw [List.length_map] at this
        rw [List.length_cons, List.replicate_succ, this]
        simp
      rw [e1, e2]
      have := ih (a ++ [x]) (by rw [ha]; simp)
      rw [List.length_append, List.length_singleton] at this
      exact this
  exact key l [] rfl
theorem self_loop {f : Int → Option (Lp Int (Ou Unit Bool))} (n : Nat) (h : ∀ i : Nat, i < n → f i = some (.go ((i + 1 : Nat) : Int))) (h0 : f n = some (.done (.out ()))) : loop f 0 = some (.out ()) :=
  down_to (P := fun i => loop f (i : Int) = some (.out ())) n (loop_done h0) (fun i hi ih => by rw [loop_go (h i hi)]; exact ih) 0 (by omega)
theorem sz_loop {f : (Int × Int) → Option (Lp (Int × Int) (Ou Int Int))} (n : Nat) (B : Int) (h : ∀ (i : Nat) (m : Int), i < n → 0 ≤ m → m ≤ B → f (m, (i : Int)) = some (.done (.ret (-1))) ∨ ∃ m', f (m, (i : Int)) = some (.go (m', ((i + 1 : Nat) : Int))) ∧ 0 ≤ m' ∧ m' ≤ m)
    (h0 : ∀ m, f (m, (n : Int)) = some (.done (.out m))) (m : Int) (hm : 0 ≤ m) (hB : m ≤ B) : loop f (m, 0) = some (.ret (-1)) ∨ ∃ t, loop f (m, 0) = some (.out t) ∧ 0 ≤ t ∧ t ≤ m := by
  refine down_to (P := fun i => ∀ m : Int, 0 ≤ m → m ≤ B → loop f (m, (i : Int)) = some (.ret (-1)) ∨ ∃ t, loop f (m, (i : Int)) = some (.out t) ∧ 0 ≤ t ∧ t ≤ m) n ?_ ?_ 0 (by omega) m hm hB
  · intro m h1 h2; exact .inr ⟨m, loop_done (h0 m), h1, Int.le_refl _⟩
  · intro i hi ih m h1 h2
    rcases h i m hi h1 h2 with e | ⟨m', e, h3, h4⟩
    · exact .inl (loop_done e)
    · rw [loop_go e]
      rcases ih m' h3 (by omega) with e | ⟨t, e, h5, h6⟩
      · exact .inl e
      · exact .inr ⟨t, e, h5, by omega⟩
theorem strOfNums_one (n : Int) : (strOfNums [n]).size = 1 := rfl
theorem laws_markText_ev (k : Int) (h0 : 0 < k) (h1 : k ≤ 1000000000000) : ∃ s, laws_markText k = some s := by
  unfold laws_markText
  rw [sel_no (by omega)]
  obtain ⟨o, h, h2⟩ := loop_inv (f := laws_markText_l2) (fun v => 0 ≤ v.1 ∧ v.1 + v.2.size ≤ 1000000000000) (fun v => v.1.toNat) (fun _ o => o.size ≤ 1000000000000) (by
    intro ⟨n, s⟩ ⟨a, b⟩
    unfold laws_markText_l2
    simp only at a b ⊢
    by_cases h : n > 0
    · rw [sel_yes h, req_p (by decide), strOfNums_one, req_p (by omega), req_p (by decide), tdiv_pos a]
      refine .inr ⟨_, rfl, ?_, ?_, fun _ h => h⟩
      · simp only [ByteArray.size_append, strOfNums_one]
        rw [wk (by omega) (by omega)]; omega
      · simp only
        rw [wk (by omega) (by omega)]; omega
    · rw [sel_no h]
      exact .inl ⟨_, rfl, by omega⟩) (k, ⟨#[]⟩) ⟨by simp only; omega, by simp only [show (⟨#[]⟩ : ByteArray).size = 0 from rfl]; omega⟩
  rw [h, bnd_s, req_p (by simp only [show (⟨#[109]⟩ : ByteArray).size = 1 from rfl]; omega)]
  exact ⟨_, rfl⟩
noncomputable def mT (k : Int) : ByteArray := (laws_markText k).getD ⟨#[]⟩
theorem laws_markText_eq (k : Int) (h0 : 0 < k) (h1 : k ≤ 1000000000000) : laws_markText k = some (mT k) := by
  obtain ⟨s, h⟩ := laws_markText_ev k h0 h1
  unfold mT; rw [h]; rfl
def brought (n a b : Int) : Int := if b < a ∨ n < a then a else if n > b then b else n
theorem laws_szPacket_eq (p : Packet) (m : Int) (h0 : 0 ≤ m) (h1 : m ≤ 1048576) (hs : p.Bytes.size ≤ maxLen) : laws_szPacket p m = some (if m < p.Bytes.size then -1 else m - p.Bytes.size) := by
  have hm : maxLen = 9223372036854775807 := rfl
  unfold laws_szPacket
  rw [wk (by omega) (by omega), sel_d]
  by_cases h : m < p.Bytes.size
  · rw [if_pos h, if_pos (by omega)]
  · rw [if_neg h, if_neg (by omega)]
theorem laws_szPacketS_ev (l : List Packet) (hl : l.length ≤ maxLen) (hs : ∀ x ∈ l, x.Bytes.size ≤ maxLen) (m : Int) (h0 : 0 ≤ m) (h1 : m ≤ 1048576) : ∃ t, laws_szPacketS l m = some t ∧ t ≤ m ∧ (0 ≤ t → l.length ≤ m) ∧ -1 ≤ t := by
  have hm : maxLen = 9223372036854775807 := rfl
  unfold laws_szPacketS
  rw [wk (by omega) (by omega)]
  by_cases h : m - l.length < 0
  · rw [sel_yes h]; exact ⟨_, rfl, by omega, by omega, by omega⟩
  · rw [sel_no h]
    rcases sz_loop (f := laws_szPacketS_l2 l) l.length 1048576 (by
      intro i m hi h0 h1
      unfold laws_szPacketS_l2
      simp only
      rw [sel_yes (by omega), req_p (by omega), laws_szPacket_eq _ m h0 h1 (by rw [Int.toNat_natCast, getD_at l i hi]; exact hs _ (List.getElem_mem hi)), bnd_s]
      split
      · left; rw [sel_yes (by omega)]
      · right; rw [sel_no (by omega), wk (by omega) (by omega)]; exact ⟨_, rfl, by omega, by omega⟩) (by
      intro m; unfold laws_szPacketS_l2; simp only; rw [sel_no (by omega)]) (m - l.length) (by omega) (by omega) with e | ⟨t, e, h2, h3⟩
    · rw [e]; exact ⟨_, rfl, by omega, by omega, by omega⟩
    · rw [e]; exact ⟨_, rfl, by omega, by omega, by omega⟩
theorem laws_toPacketS_eq (l : List Packet) (hl : l.length ≤ 1048576) : laws_toPacketS l = some l := by
  unfold laws_toPacketS
  rw [req_p (by omega), Int.toNat_natCast]
  have := fill_loop l (fun p : Packet => p) dPacket dPacket (f := laws_toPacketS_l2 l) (by
    intro i o hi ho
    unfold laws_toPacketS_l2
    simp only
    rw [sel_yes (by omega), req_p (by omega), laws_toPacket, bnd_s, req_p (by omega), req_p (by omega), wk (by omega) (by omega)]
    rfl) (by
    intro o; unfold laws_toPacketS_l2; simp only; rw [sel_no (by omega)])
  rw [this, bnd_s, List.map_id']
theorem laws_eqPacket_self (p : Packet) : laws_eqPacket p p = some true := by
  unfold laws_eqPacket
  simp [sel]
theorem laws_eqPacketS_self (l : List Packet) (hl : l.length ≤ 1048600) : laws_eqPacketS l l = some true := by
  unfold laws_eqPacketS
  rw [sel_neg (by simp), self_loop l.length (f := laws_eqPacketS_l2 l l) (by
    intro i hi
    unfold laws_eqPacketS_l2
    rw [sel_yes (by omega), req_p (by omega), req_p (by omega), laws_eqPacket_self, bnd_s, sel_n, sel_t, wk (by omega) (by omega)]
    rfl) (by unfold laws_eqPacketS_l2; rw [sel_no (by omega)])]
  rfl
noncomputable def markP (k : Int) : List Packet → List Packet
  | [] => []
  | _ :: r => ⟨k, (k + 1) % 3 == 0, (k + 2) % 3 == 0, mT (k + 3)⟩ :: markP (k + 4) r
theorem markP_len : ∀ (l : List Packet) (k : Int), (markP k l).length = l.length
  | [], _ => rfl
  | _ :: r, k => by rw [markP, List.length_cons, List.length_cons, markP_len r]
theorem laws_markPacketS_eq (l : List Packet) (k : Int) (h0 : 0 < k) (h1 : k ≤ 100000000) (hl : l.length ≤ 1048600) : laws_markPacketS l k = some (k + 4 * l.length, markP k l) := by
  unfold laws_markPacketS
  have key : ∀ (r a : List Packet) (j : Int), 0 < j → j + 4 * r.length ≤ 200000000 → a.length + r.length ≤ 1048600 → loop laws_markPacketS_l2 (j, (a.length : Int), a ++ r) = some (j + 4 * r.length, a ++ markP j r) := by
    intro r
    induction r with
    | nil =>
      intro a j hj1 hj2 hl
      refine ldone ?_
      unfold laws_markPacketS_l2
      simp only [List.append_nil]
      rw [sel_no (by omega)]
      simp [markP]
    | cons p r ih =>
      intro a j hj1 hj2 hl
      simp only [List.length_cons] at hj2 hl ⊢
      have hcl : ∀ x : Packet, (a ++ x :: r).length = a.length + (r.length + 1) := fun x => by simp
      refine lgo (y := (j + 4, ((a ++ [(⟨j, (j + 1) % 3 == 0, (j + 2) % 3 == 0, mT (j + 3)⟩ : Packet)]).length : Int), (a ++ [(⟨j, (j + 1) % 3 == 0, (j + 2) % 3 == 0, mT (j + 3)⟩ : Packet)]) ++ r)) ?_ ?_
      · unfold laws_markPacketS_l2
        simp only [Int.toNat_natCast, bnd_s, set_mid, getD_mid, hcl]
        rw [sel_yes (by omega), req_p (by omega), req_p (by omega), req_p (by decide), req_p (by omega), req_p (by omega), req_p (by decide), req_p (by omega), req_p (by omega), wk (e := j + 1) (by omega) (by omega), wk (e := j + 1 + 1) (by omega) (by omega), wk (e := j + 1 + 1 + 1) (by omega) (by omega), wk (e := j + 1 + 1 + 1 + 1) (by omega) (by omega), laws_markText_eq _ (by omega) (by omega), bnd_s, req_p (by omega), req_p (by omega), wk (e := (a.length : Int) + 1) (by omega) (by omega), tmod_pos (by omega), tmod_pos (by omega)]
        rw [show j + 1 + 1 + 1 + 1 = j + 4 by omega, show j + 1 + 1 + 1 = j + 3 by omega, show j + 1 + 1 = j + 2 by omega]
        simp
      · rw [ih _ (j + 4) (by omega) (by omega) (by simp; omega)]
        simp only [markP, List.append_assoc, List.singleton_append]
        congr 2
        omega
  have := key l [] k h0 (by omega) (by simp; omega)
  simp only [List.length_nil, List.nil_append] at this
  rw [show ((k, 0, l) : Int × Int × List Packet) = (k, ((0 : Nat) : Int), l) from rfl, this]
  rfl
theorem laws_heldPacketS_eq (l : List Packet) (k : Int) (h0 : 0 < k) (h1 : k ≤ 100000000) (hl : l.length ≤ 1048600) : laws_heldPacketS (markP k l) k = some (k + 4 * l.length) := by
  unfold laws_heldPacketS
  have key : ∀ (r a : List Packet) (j : Int), 0 < j → j + 4 * r.length ≤ 200000000 → a.length + r.length ≤ 1048600 → loop (laws_heldPacketS_l2 (a ++ markP j r)) (j, (a.length : Int)) = some (.out (j + 4 * r.length)) := by
    intro r
    induction r with
    | nil =>
      intro a j hj1 hj2 hl
      refine ldone ?_
      unfold laws_heldPacketS_l2
      simp only [markP, List.append_nil]
      rw [sel_no (by omega)]
      simp
    | cons p r ih =>
      intro a j hj1 hj2 hl
      simp only [List.length_cons] at hj2 hl ⊢
      have hcl : ∀ (x : Packet) (r : List Packet), (a ++ x :: r).length = a.length + (r.length + 1) := fun x r => by simp
      refine lgo (y := (j + 4, ((a ++ [(⟨j, (j + 1) % 3 == 0, (j + 2) % 3 == 0, mT (j + 3)⟩ : Packet)]).length : Int))) ?_ ?_
      · unfold laws_heldPacketS_l2
        simp only [markP, Int.toNat_natCast, getD_mid, hcl, markP_len]
        rw [sel_yes (by omega), req_p (by omega), sel_neg (by simp), req_p (by omega), req_p (by decide), wk (e := j + 1) (by omega) (by omega), tmod_pos (by omega), sel_neg (by simp), req_p (by omega), req_p (by decide), wk (e := j + 1 + 1) (by omega) (by omega), tmod_pos (by omega), sel_neg (by rw [show j + 1 + 1 = j + 2 by omega]; simp), req_p (by omega),
          wk (e := j + 1 + 1 + 1) (by omega) (by omega), laws_markText_eq _ (by omega) (by omega), bnd_s, sel_neg (by rw [show j + 1 + 1 + 1 = j + 3 by omega]; simp), wk (e := j + 1 + 1 + 1 + 1) (by omega) (by omega), wk (e := (a.length : Int) + 1) (by omega) (by omega)]
        simp; omega
      · have := ih (a ++ [(⟨j, (j + 1) % 3 == 0, (j + 2) % 3 == 0, mT (j + 3)⟩ : Packet)]) (j + 4) (by omega) (by omega) (by simp; omega)
        simp only [markP]
        rw [List.append_assoc, List.singleton_append] at this
        rw [this]
        congr 2
        omega
  have := key l [] k h0 (by omega) (by simp; omega)
  simp only [List.length_nil, List.nil_append] at this
  rw [show ((k, 0) : Int × Int) = (k, ((0 : Nat) : Int)) from rfl, this]
  rfl
def seqPlus (a b : Int) : Int := if 0 ≤ a ∧ a ≤ 65535 ∧ 0 ≤ b ∧ b ≤ 65535 then (a + b) % 65536 else 0
theorem impl_SeqPlus_eq (a b : Int) : impl_SeqPlus a b = some (seqPlus a b) := by
  unfold impl_SeqPlus seqPlus
  simp only [impl_isNumber_eq, bnd_s, sel_nor]
  by_cases h : 0 ≤ a ∧ a ≤ 65535 ∧ 0 ≤ b ∧ b ≤ 65535
  · rw [if_pos h, sel_neg (by simp; omega), req_p (by decide), wk (by omega) (by omega), tmod_pos (by omega)]
  · rw [if_neg h, sel_pos (by simp; omega)]
theorem spec_SeqPlus_eq (a b : Int) : spec_SeqPlus a b = some (seqPlus a b) := by
  unfold spec_SeqPlus seqPlus
  simp only [spec_l01In_eq, bnd_s, sel_nor]
  by_cases h : 0 ≤ a ∧ a ≤ 65535 ∧ 0 ≤ b ∧ b ≤ 65535
  · rw [if_pos h, sel_neg (by simp; omega), req_p (by decide), wk (by omega) (by omega), tmod_pos (by omega)]
  · rw [if_neg h, sel_pos (by simp; omega)]
def seqGap (a b : Int) : Int := if 0 ≤ a ∧ a ≤ 65535 ∧ 0 ≤ b ∧ b ≤ 65535 then (if b - a > 32767 then b - a - 65536 else if b - a < -32768 then b - a + 65536 else b - a) else 0
theorem impl_SeqGap_eq (a b : Int) : impl_SeqGap a b = some (seqGap a b) := by
  unfold impl_SeqGap seqGap
  simp only [impl_isNumber_eq, bnd_s, sel_nor]
  by_cases h : 0 ≤ a ∧ a ≤ 65535 ∧ 0 ≤ b ∧ b ≤ 65535
  · rw [if_pos h, sel_neg (by simp; omega), req_p (by decide), wk (e := b - a) (by omega) (by omega), wk (e := b - a + 65536) (by omega) (by omega), tmod_pos (by omega), wk (by omega) (by omega), sel_d]
    repeat' split
    all_goals (simp only [bnd_s]; congr 1; omega)
  · rw [if_neg h, sel_pos (by simp; omega)]
theorem spec_SeqGap_eq (a b : Int) : spec_SeqGap a b = some (seqGap a b) := by
  unfold spec_SeqGap seqGap
  simp only [spec_l01In_eq, bnd_s, sel_nor]
  by_cases h : 0 ≤ a ∧ a ≤ 65535 ∧ 0 ≤ b ∧ b ≤ 65535
  · rw [if_pos h, sel_neg (by simp; omega), wk (e := b - a) (by omega) (by omega), wk (by omega) (by omega)]
    simp only [sel_d]
    by_cases h1 : b - a > 32767
    · rw [if_pos h1, if_pos h1, bnd_s, if_neg (by omega), bnd_s]
    · rw [if_neg h1, if_neg h1, bnd_s]
      by_cases h2 : b - a < -32768
      · rw [if_pos h2, if_pos h2, bnd_s, wk (by omega) (by omega)]
      · rw [if_neg h2, if_neg h2, bnd_s]
  · rw [if_neg h, sel_pos (by simp; omega)]
def packetOk (p : Packet) : Bool := decide (0 ≤ p.Seq ∧ p.Seq ≤ 65535 ∧ 1 ≤ p.Bytes.size ∧ p.Bytes.size ≤ 400)
theorem packetOk_iff (p : Packet) : packetOk p = true ↔ 0 ≤ p.Seq ∧ p.Seq ≤ 65535 ∧ 1 ≤ p.Bytes.size ∧ p.Bytes.size ≤ 400 := by simp [packetOk]
theorem impl_PacketOk_eq (p : Packet) : impl_PacketOk p = some (packetOk p) := by
  unfold impl_PacketOk packetOk
  simp only [impl_isNumber_eq, impl_within_eq, bnd_s, sel_and]
  congr 1
  rw [Bool.eq_iff_iff]; simp; omega
theorem spec_PacketOk_eq (p : Packet) : spec_PacketOk p = some (packetOk p) := by
  unfold spec_PacketOk packetOk
  simp only [spec_l01In_eq, bnd_s, sel_and]
  congr 1
  rw [Bool.eq_iff_iff]; simp; omega
def cnt (n : Int) : Bool := decide (0 ≤ n ∧ n ≤ 1000000000)
theorem spec_l23Count_eq (n : Int) : spec_l23Count n = some (cnt n) := by
  unfold spec_l23Count cnt
  rw [spec_l01In_eq, bnd_s]
def more (n : Int) : Int := if n + 1 < 1000000000 then n + 1 else 1000000000
theorem impl_counted_eq (n : Int) (h : cnt n = true) : impl_counted n = some (more n) := by
  have h' : 0 ≤ n ∧ n ≤ 1000000000 := by simpa [cnt] using h
  unfold impl_counted more
  rw [wk (by omega) (by omega)]
  congr 1
  split <;> split <;> omega
theorem spec_Brought_eq (n a b : Int) : spec_Brought n a b = some (brought n a b) := by
  unfold spec_Brought brought
  rw [sel_or, bnd_s]
  by_cases h : b < a ∨ n < a
  · rw [if_pos h, sel_pos (by simpa using h)]
  · rw [if_neg h, sel_neg (by simp; omega), sel_d]; split <;> rfl
theorem spec_l23More_eq (n : Int) (h : cnt n = true) : spec_l23More n = some (more n) := by
  have h' : 0 ≤ n ∧ n ≤ 1000000000 := by simpa [cnt] using h
  unfold spec_l23More more
  rw [wk (by omega) (by omega), spec_Brought_eq, bnd_s]
  unfold brought
  congr 1
  repeat' split
  all_goals omega
def heldOk (next : Int) : Int → List Packet → Bool
  | _, [] => true
  | last, p :: r => packetOk p && decide (last < seqGap next p.Seq ∧ seqGap next p.Seq < 40) && heldOk next (seqGap next p.Seq) r
def cnts (q : Queue) : Bool := cnt q.Late && cnt q.Far && cnt q.Twice && cnt q.Over && cnt q.Lost
def queueOk (q : Queue) : Bool :=
  if q.Begun = true then decide (0 ≤ q.Next ∧ q.Next ≤ 65535 ∧ 0 ≤ q.Age ∧ q.Age ≤ 20 ∧ q.Held.length ≤ 24) && (heldOk q.Next (-1) q.Held && cnts q)
  else decide (q.Next = 0 ∧ q.Age = 0 ∧ q.Held.length = 0 ∧ q.Late = 0 ∧ q.Far = 0 ∧ q.Twice = 0 ∧ q.Over = 0 ∧ q.Lost = 0)
theorem spec_QueueOk_eq (q : Queue) : spec_QueueOk q = some (queueOk q) := by
  unfold spec_QueueOk queueOk
  simp only [spec_l01In_eq, spec_l23Count_eq, bnd_s, sel_and, sel_nor]
  by_cases hb : q.Begun = true
  · rw [sel_neg (by simp [hb]), if_pos hb]
    by_cases h1 : 0 ≤ q.Next ∧ q.Next ≤ 65535 ∧ 0 ≤ q.Age ∧ q.Age ≤ 20 ∧ q.Held.length ≤ 24
    · rw [sel_neg (by simp; omega), decide_eq_true h1, Bool.true_and]
      have key : ∀ (r a : List Packet) (last : Int), q.Held = a ++ r → loop (spec_QueueOk_l2 q) (last, (a.length : Int)) = some (if heldOk q.Next last r = true then .out () else .ret false) := by
        intro r
        induction r with
        | nil =>
          intro a last ha
          rw [List.append_nil] at ha
          refine ldone ?_
          unfold spec_QueueOk_l2
          simp only
          rw [sel_no (by rw [ha]; omega)]; rfl
        | cons p r ih =>
          intro a last ha
          have hlen : a.length < q.Held.length := by rw [ha]; simp
          have hp : q.Held.getD a.length dPacket = p := by rw [ha]; exact getD_mid a p _ r
          have hstep : spec_QueueOk_l2 q (last, (a.length : Int)) = sel (!(packetOk p && decide (last < seqGap q.Next p.Seq ∧ seqGap q.Next p.Seq < 40))) (some (.done (.ret false))) (some (.go (seqGap q.Next p.Seq, ((a.length + 1 : Nat) : Int)))) := by
            unfold spec_QueueOk_l2
            simp only [Int.toNat_natCast, hp]
            rw [sel_yes (by omega), req_p (by omega), spec_SeqGap_eq, bnd_s, req_p (by omega), spec_PacketOk_eq, bnd_s, wk (by omega) (by omega), sel_or, sel_nor, bnd_s]
            congr 1
            cases packetOk p <;> rw [Bool.eq_iff_iff] <;> simp <;> omega
          by_cases h : packetOk p = true ∧ last < seqGap q.Next p.Seq ∧ seqGap q.Next p.Seq < 40
          · rw [lgo (by rw [hstep, sel_neg (by simp [h])]) rfl]
            have := ih (a ++ [p]) (seqGap q.Next p.Seq) (by rw [ha]; simp)
            rw [List.length_append, List.length_singleton] at this
            rw [this]
            simp [heldOk, h]
          · rw [ldone (by rw [hstep, sel_pos (by simp only [Bool.not_eq_true', Bool.and_eq_false_iff, decide_eq_false_iff_not]; by_cases hp : packetOk p = true; exact .inr (fun e => h ⟨hp, e⟩); exact .inl (by simpa using hp))])]
            rw [if_neg]
            simp only [heldOk, Bool.and_eq_true, decide_eq_true_eq]
            exact fun e => h ⟨e.1.1, e.1.2⟩
      have := key q.Held [] (-1) rfl
      simp only [List.length_nil] at this
      rw [show (((-1 : Int), (0 : Int))) = ((-1), ((0 : Nat) : Int)) from rfl, this, bnd_s]
      by_cases h2 : heldOk q.Next (-1) q.Held = true
      · rw [if_pos h2, h2]; simp only [cnts, Bool.true_and, Bool.and_assoc]
      · rw [if_neg h2]; simp only [Bool.not_eq_true] at h2; rw [h2]; rfl
    · rw [sel_pos (by simp; omega), decide_eq_false h1, Bool.false_and]
  · rw [sel_pos (by simpa using hb), if_neg hb]
    congr 1
    rw [Bool.eq_iff_iff]; simp
theorem impl_QueueOk_eq (q : Queue) : impl_QueueOk q = some (queueOk q) := by
  unfold impl_QueueOk queueOk
  simp only [impl_isNumber_eq, impl_within_eq, bnd_s, sel_and, sel_nor]
  by_cases hb : q.Begun = true
  · rw [sel_neg (by simp [hb]), if_pos hb]
    by_cases h1 : 0 ≤ q.Next ∧ q.Next ≤ 65535 ∧ 0 ≤ q.Age ∧ q.Age ≤ 20 ∧ q.Held.length ≤ 24
    · rw [sel_neg (by simp; omega), decide_eq_true h1, Bool.true_and]
      have key : ∀ (r a : List Packet) (last : Int), q.Held = a ++ r → -1 ≤ last → last < 40 → loop (impl_QueueOk_l2 q) (last, (a.length : Int)) = some (if heldOk q.Next last r = true then .out () else .ret false) := by
        intro r
        induction r with
        | nil =>
          intro a last ha _ _
          rw [List.append_nil] at ha
          refine ldone ?_
          unfold impl_QueueOk_l2
          simp only
          rw [sel_no (by rw [ha]; omega)]; rfl
        | cons p r ih =>
          intro a last ha hl1 hl2
          have hlen : a.length < q.Held.length := by rw [ha]; simp
          have hp : q.Held.getD a.length dPacket = p := by rw [ha]; exact getD_mid a p _ r
          have hstep : impl_QueueOk_l2 q (last, (a.length : Int)) = sel (!(packetOk p && decide (last < seqGap q.Next p.Seq ∧ seqGap q.Next p.Seq < 40))) (some (.done (.ret false))) (some (.go (seqGap q.Next p.Seq, ((a.length + 1 : Nat) : Int)))) := by
            unfold impl_QueueOk_l2
            simp only [Int.toNat_natCast, hp]
            rw [sel_yes (by omega), req_p (by omega), impl_SeqGap_eq, bnd_s, impl_PacketOk_eq, bnd_s, wk (by omega) (by omega), impl_within_eq, bnd_s, wk (by omega) (by omega), sel_nor, bnd_s]
            congr 1
            cases packetOk p <;> rw [Bool.eq_iff_iff] <;> simp <;> omega
          by_cases h : packetOk p = true ∧ last < seqGap q.Next p.Seq ∧ seqGap q.Next p.Seq < 40
          · rw [lgo (by rw [hstep, sel_neg (by simp [h])]) rfl]
            have := ih (a ++ [p]) (seqGap q.Next p.Seq) (by rw [ha]; simp) (by omega) (by omega)
            rw [List.length_append, List.length_singleton] at this
            rw [this]
            simp [heldOk, h]
          · rw [ldone (by rw [hstep, sel_pos (by simp only [Bool.not_eq_true', Bool.and_eq_false_iff, decide_eq_false_iff_not]; by_cases hp : packetOk p = true; exact .inr (fun e => h ⟨hp, e⟩); exact .inl (by simpa using hp))])]
            rw [if_neg]
            simp only [heldOk, Bool.and_eq_true, decide_eq_true_eq]
            exact fun e => h ⟨e.1.1, e.1.2⟩
      have := key q.Held [] (-1) rfl (by omega) (by omega)
      simp only [List.length_nil] at this
      rw [show (((-1 : Int), (0 : Int))) = ((-1), ((0 : Nat) : Int)) from rfl, this, bnd_s]
      by_cases h2 : heldOk q.Next (-1) q.Held = true
      · rw [if_pos h2, h2, Bool.true_and]
        have st : ∀ i : Nat, i < 5 → impl_QueueOk_l4 q (i : Int) = sel (cnt (([q.Late, q.Far, q.Twice, q.Over, q.Lost]).getD i 0)) (some (.go ((i + 1 : Nat) : Int))) (some (.done (.ret false))) := by
          intro i hi
          unfold impl_QueueOk_l4
          simp only [List.length_cons, List.length_nil]
          rw [sel_yes (by omega), req_p (by omega), req_p (by omega), impl_within_eq, bnd_s, sel_n, wk (by omega) (by omega)]
          rfl
        have e5 : loop (impl_QueueOk_l4 q) ((5 : Nat) : Int) = some (.out ()) := ldone (by unfold impl_QueueOk_l4; rw [sel_no (by simp)])
        have go : ∀ i : Nat, i < 5 → loop (impl_QueueOk_l4 q) (i : Int) = sel (cnt (([q.Late, q.Far, q.Twice, q.Over, q.Lost]).getD i 0)) (loop (impl_QueueOk_l4 q) ((i + 1 : Nat) : Int)) (some (.ret false)) := by
          intro i hi
          have := st i hi
          cases h : cnt (([q.Late, q.Far, q.Twice, q.Over, q.Lost]).getD i 0) with
          | true => rw [h] at this; exact loop_go this
          | false => rw [h] at this; exact loop_done this
        have := go 0 (by omega)
        rw [show (0 : Int) = ((0 : Nat) : Int) from rfl, this, go 1 (by omega), go 2 (by omega), go 3 (by omega), go 4 (by omega), e5]
        simp only [cnts, List.getD_cons_zero, List.getD_cons_succ]
        cases cnt q.Late <;> cases cnt q.Far <;> cases cnt q.Twice <;> cases cnt q.Over <;> cases cnt q.Lost <;> rfl
      · rw [if_neg h2]; simp only [Bool.not_eq_true] at h2; rw [h2]; rfl
    · rw [sel_pos (by simp; omega), decide_eq_false h1, Bool.false_and]
  · rw [sel_pos (by simpa using hb), if_neg hb]
    congr 1
    rw [Bool.eq_iff_iff]; simp
theorem heldOk_mem : ∀ {l : List Packet} {n last : Int}, heldOk n last l = true → ∀ p ∈ l, packetOk p = true
  | [], _, _, _, p, hp => by simp at hp
  | q :: r, n, last, h, p, hp => by
    rw [heldOk, Bool.and_eq_true, Bool.and_eq_true] at h
    rcases List.mem_cons.1 hp with rfl | hp
    · exact h.1.1
    · exact heldOk_mem h.2 p hp
theorem queueOk_held {q : Queue} (h : queueOk q = true) : 0 ≤ q.Next ∧ q.Next ≤ 65535 ∧ q.Held.length ≤ 24 ∧ 0 ≤ q.Age ∧ q.Age ≤ 20 ∧ cnts q = true ∧ ∀ p ∈ q.Held, packetOk p = true := by
  unfold queueOk at h
  by_cases hb : q.Begun = true
  · rw [if_pos hb, Bool.and_eq_true, Bool.and_eq_true, decide_eq_true_eq] at h
    exact ⟨h.1.1, h.1.2.1, h.1.2.2.2.2, h.1.2.2.1, h.1.2.2.2.1, h.2.2, heldOk_mem h.2.1⟩
  · rw [if_neg hb, decide_eq_true_eq] at h
    obtain ⟨h1, h2, h3, h4, h5, h6, h7, h8⟩ := h
    have : q.Held = [] := List.length_eq_zero_iff.1 h3
    refine ⟨by omega, by omega, by omega, by omega, by omega, ?_, by rw [this]; simp⟩
    unfold cnts cnt; rw [h4, h5, h6, h7, h8]; rfl
theorem cnts_each {q : Queue} (h : cnts q = true) : cnt q.Late = true ∧ cnt q.Far = true ∧ cnt q.Twice = true ∧ cnt q.Over = true ∧ cnt q.Lost = true := by
  unfold cnts at h
  simp only [Bool.and_eq_true] at h
  exact ⟨h.1.1.1.1, h.1.1.1.2, h.1.1.2, h.1.2, h.2⟩
theorem impl_copyQueue_eq (q : Queue) (h : q.Held.length ≤ 1048576) : impl_copyQueue q = some q := by
  have hm : maxLen = 9223372036854775807 := rfl
  unfold impl_copyQueue
  rw [req_p (by simp only [List.length_nil]; omega), List.nil_append]
theorem spec_l23Copy_eq (q : Queue) (h : q.Held.length ≤ 1048576) : spec_l23Copy q = some q := by
  have hm : maxLen = 9223372036854775807 := rfl
  unfold spec_l23Copy
  rw [req_p (by simp only [List.length_nil]; omega), List.nil_append]
def hasSeq (s : Int) (l : List Packet) : Bool := l.any fun p => p.Seq == s
theorem has_loop (q : Queue) (s : Int) (f : Int → Option (Lp Int (Ou Unit Bool))) (hl : q.Held.length ≤ 1048576)
    (h : ∀ i : Nat, i < q.Held.length → f (i : Int) = sel (((q.Held.getD i dPacket).Seq) == s) (some (.done (.ret true))) (some (.go ((i + 1 : Nat) : Int)))) (h0 : f (q.Held.length : Int) = some (.done (.out ()))) :
    loop f 0 = some (if hasSeq s q.Held = true then .ret true else .out ()) := by
  have key : ∀ (r a : List Packet), q.Held = a ++ r → loop f (a.length : Int) = some (if hasSeq s r = true then .ret true else .out ()) := by
    intro r
    induction r with
    | nil => intro a ha; rw [List.append_nil] at ha; rw [ha] at h0; rw [loop_done h0]; rfl
    | cons p r ih =>
      intro a ha
      have hlen : a.length < q.Held.length := by rw [ha]; simp
      have hp : q.Held.getD a.length dPacket = p := by rw [ha]; exact getD_mid a p _ r
      have hs := h a.length hlen
      rw [hp] at hs
      by_cases e : p.Seq = s
      · rw [sel_pos (by simpa using e)] at hs
        rw [loop_done hs, if_pos (by simp [hasSeq, e])]
      · rw [sel_neg (by simpa using e)] at hs
        rw [loop_go hs]
        have := ih (a ++ [p]) (by rw [ha]; simp)
        rw [List.length_append, List.length_singleton] at this
        rw [this]
        have e2 : hasSeq s (p :: r) = hasSeq s r := by simp [hasSeq, e]
        rw [e2]
  exact key q.Held [] rfl
theorem impl_QueueHas_eq (q : Queue) (s : Int) : impl_QueueHas q s = some (queueOk q && hasSeq s q.Held) := by
  unfold impl_QueueHas
  rw [impl_QueueOk_eq, bnd_s, sel_n]
  cases h : queueOk q with
  | false => rfl
  | true =>
    have hq := queueOk_held h
    rw [sel_t, has_loop q s (impl_QueueHas_l2 q s) (by omega) (by
      intro i hi
      unfold impl_QueueHas_l2
      rw [sel_yes (by omega), req_p (by omega), wk (by omega) (by omega)]; rfl) (by unfold impl_QueueHas_l2; rw [sel_no (by omega)]), bnd_s]
    cases hasSeq s q.Held <;> rfl
theorem spec_QueueHas_eq (q : Queue) (s : Int) : spec_QueueHas q s = some (queueOk q && hasSeq s q.Held) := by
  unfold spec_QueueHas
  rw [spec_QueueOk_eq, bnd_s, sel_n]
  cases h : queueOk q with
  | false => rfl
  | true =>
    have hq := queueOk_held h
    rw [sel_t, has_loop q s (spec_QueueHas_l2 q s) (by omega) (by
      intro i hi
      unfold spec_QueueHas_l2
      rw [sel_yes (by omega), req_p (by omega), wk (by omega) (by omega)]; rfl) (by unfold spec_QueueHas_l2; rw [sel_no (by omega)]), bnd_s]
    cases hasSeq s q.Held <;> rfl
theorem cut_all {α : Type} (l : List α) (k : Nat) : (l.drop k).take (l.length - k) = l.drop k := List.take_of_length_le (by rw [List.length_drop]; omega)
theorem laws_toQueue_eq (q : Queue) (h : q.Held.length ≤ 1048576) : laws_toQueue q = some q := by
  unfold laws_toQueue
  rw [laws_toPacketS_eq q.Held h, bnd_s]
theorem laws_eqQueue_self (q : Queue) (h : q.Held.length ≤ 1048600) : laws_eqQueue q q = some true := by
  unfold laws_eqQueue
  simp only [laws_eqPacketS_self q.Held h, bnd_s, bne_self_eq_false, sel_f, beq_self_eq_true, Bool.not_true]
theorem laws_markQueue_eq (q : Queue) (k : Int) (h0 : 0 < k) (h1 : k ≤ 100000000) (hl : q.Held.length ≤ 1048600) : laws_markQueue q k = some (k + 4 * q.Held.length, (⟨q.Begun, q.Next, q.Age, markP k q.Held, q.Late, q.Far, q.Twice, q.Over, q.Lost⟩ : Queue)) := by
  unfold laws_markQueue
  rw [laws_markPacketS_eq q.Held k h0 h1 hl, bnd_s]
theorem laws_heldQueue_eq (q : Queue) (l : List Packet) (k : Int) (h : q.Held = markP k l) (h0 : 0 < k) (h1 : k ≤ 100000000) (hl : l.length ≤ 1048600) : laws_heldQueue q k = some (k + 4 * l.length) := by
  unfold laws_heldQueue
  rw [h, laws_heldPacketS_eq l k h0 h1 hl, bnd_s, sel_no (by omega)]
theorem laws_szQueue_ev (q : Queue) (h : okQueue q) : ∃ t, laws_szQueue q 1048576 = some t ∧ t ≤ 1048576 ∧ (0 ≤ t → q.Held.length ≤ 1048576) ∧ -1 ≤ t := by
  unfold okQueue at h
  obtain ⟨t, e, h1, h2, h3⟩ := laws_szPacketS_ev q.Held h.2.2.2.1.1 (fun x hx => (h.2.2.2.1.2 x hx).2.2.2) 1048576 (by omega) (by omega)
  unfold laws_szQueue
  rw [e, bnd_s, sel_d]
  split
  · exact ⟨_, rfl, by omega, by omega, by omega⟩
  · exact ⟨_, rfl, by omega, fun h => by have := h2 h; omega, by omega⟩
def putL (n g : Int) (p : Packet) : List Packet → List Packet
  | [] => [p]
  | x :: r => if g < seqGap n x.Seq then p :: x :: r else x :: putL n g p r
def putR (n g : Int) (p : Packet) : List Packet → Bool × List Packet
  | [] => (false, [])
  | x :: r => if g < seqGap n x.Seq then (true, p :: x :: r) else ((putR n g p r).1, x :: (putR n g p r).2)
theorem putR_putL (n g : Int) (p : Packet) : ∀ r : List Packet, putL n g p r = if (putR n g p r).1 = true then (putR n g p r).2 else (putR n g p r).2 ++ [p]
  | [] => rfl
  | x :: r => by
    rw [putL, putR]
    split
    · rfl
    · rw [putR_putL n g p r]
      simp only
      split <;> simp
theorem putR_len (n g : Int) (p : Packet) : ∀ r : List Packet, (putR n g p r).2.length ≤ r.length + 1
  | [] => by simp [putR]
  | x :: r => by
    rw [putR]
    split
    · simp
    · have := putR_len n g p r; simp; omega
theorem putL_len (n g : Int) (p : Packet) : ∀ r : List Packet, (putL n g p r).length = r.length + 1
  | [] => rfl
  | x :: r => by
    rw [putL]
    split
    · rfl
    · rw [List.length_cons, putL_len n g p r]; rfl
theorem spec_l23Put_eq (q : Queue) (p : Packet) (hl : q.Held.length ≤ 24) : spec_l23Put q p = some (⟨q.Begun, q.Next, q.Age, putL q.Next (seqGap q.Next p.Seq) p q.Held, q.Late, q.Far, q.Twice, q.Over, q.Lost⟩ : Queue) := by
  have hm : maxLen = 9223372036854775807 := rfl
  unfold spec_l23Put
  rw [spec_SeqGap_eq, bnd_s]
  generalize hg : seqGap q.Next p.Seq = g
  have step : ∀ (a : List Packet) (x : Packet) (r out : List Packet) (b : Bool), q.Held = a ++ x :: r → out.length ≤ a.length + 1 → spec_l23Put_l2 q p g (b, (a.length : Int), out) = some (.go (if b = true then (true, ((a.length + 1 : Nat) : Int), out ++ [x]) else if g < seqGap q.Next x.Seq then (true, ((a.length + 1 : Nat) : Int), out ++ [p] ++ [x]) else (false, ((a.length + 1 : Nat) : Int), out ++ [x]))) := by
    intro a x r out b ha ho
    have hlen : a.length < q.Held.length := by rw [ha]; simp
    have hx : q.Held.getD a.length dPacket = x := by rw [ha]; exact getD_mid a x _ r
    unfold spec_l23Put_l2
    simp only [Int.toNat_natCast, hx]
    rw [sel_yes (by omega), req_p (c := 0 ≤ (a.length : Int) ∧ _) (by omega), spec_SeqGap_eq, bnd_s, wk (by omega) (by omega)]
    cases b with
    | true => rw [sel_t, bnd_s, sel_f, bnd_s, req_p (by omega), req_p (by simp only [List.length_singleton]; omega)]; rfl
    | false =>
      rw [sel_f, bnd_s, sel_d]
      by_cases h : g < seqGap q.Next x.Seq
      · rw [if_pos (show seqGap q.Next x.Seq > g from h), req_p (by simp only [List.length_singleton]; omega), bnd_s, req_p (by omega), req_p (by simp only [List.length_append, List.length_singleton]; omega), if_neg (by decide), if_pos h]; rfl
      · rw [if_neg (show ¬ seqGap q.Next x.Seq > g from h), bnd_s, req_p (by omega), req_p (by simp only [List.length_singleton]; omega), if_neg (by decide), if_neg h]; rfl
  have fin : ∀ (b : Bool) (out : List Packet), spec_l23Put_l2 q p g (b, (q.Held.length : Int), out) = some (.done (b, out)) := by
    intro b out; unfold spec_l23Put_l2; simp only; rw [sel_no (by omega)]
  have key1 : ∀ (r a out : List Packet), q.Held = a ++ r → out.length ≤ a.length + 1 → loop (spec_l23Put_l2 q p g) (true, (a.length : Int), out) = some (true, out ++ r) := by
    intro r
    induction r with
    | nil => intro a out ha _; rw [List.append_nil] at ha; rw [← ha, loop_done (fin _ _), List.append_nil]
    | cons x r ih =>
      intro a out ha ho
      rw [loop_go (step a x r out true ha ho), if_pos rfl]
      have := ih (a ++ [x]) (out ++ [x]) (by rw [ha]; simp) (by simp; omega)
      rw [List.length_append, List.length_singleton] at this
      rw [this]; simp
  have key : ∀ (r a out : List Packet), q.Held = a ++ r → out.length ≤ a.length → loop (spec_l23Put_l2 q p g) (false, (a.length : Int), out) = some ((putR q.Next g p r).1, out ++ (putR q.Next g p r).2) := by
    intro r
    induction r with
    | nil => intro a out ha _; rw [List.append_nil] at ha; rw [← ha, loop_done (fin _ _)]; simp [putR]
    | cons x r ih =>
      intro a out ha ho
      rw [loop_go (step a x r out false ha (by omega)), if_neg (by decide), putR]
      by_cases h : g < seqGap q.Next x.Seq
      · rw [if_pos h, if_pos h]
        have := key1 r (a ++ [x]) (out ++ [p] ++ [x]) (by rw [ha]; simp) (by simp; omega)
        rw [List.length_append, List.length_singleton] at this
        rw [this]; simp
      · rw [if_neg h, if_neg h]
        have := ih (a ++ [x]) (out ++ [x]) (by rw [ha]; simp) (by simp; omega)
        rw [List.length_append, List.length_singleton] at this
        rw [this]; simp
  have := key q.Held [] [] rfl (by simp)
  simp only [List.length_nil, List.nil_append] at this
  rw [show (((false : Bool), (0 : Int), ([] : List Packet))) = (false, ((0 : Nat) : Int), []) from rfl, this, bnd_s, putR_putL]
  have hlen := putR_len q.Next g p q.Held
  cases h : (putR q.Next g p q.Held).1 with
  | true => rfl
  | false =>
    simp only [Bool.not_false, sel_t]
    rw [req_p (by simp only [List.length_singleton]; omega)]
    rfl
def holdN (n g : Int) : List Packet → Nat
  | [] => 0
  | x :: r => if seqGap n x.Seq < g then holdN n g r + 1 else 0
theorem holdN_le (n g : Int) : ∀ r : List Packet, holdN n g r ≤ r.length
  | [] => by simp [holdN]
  | x :: r => by
    rw [holdN]; have := holdN_le n g r
    split
    · simp; omega
    · omega
theorem put_hold (n g : Int) (p : Packet) : ∀ r : List Packet, (∀ x ∈ r, seqGap n x.Seq ≠ g) → putL n g p r = r.take (holdN n g r) ++ [p] ++ r.drop (holdN n g r)
  | [], _ => rfl
  | x :: r, h => by
    have h1 := h x (by simp)
    rw [putL, holdN]
    by_cases e : seqGap n x.Seq < g
    · rw [if_pos e, if_neg (by omega), put_hold n g p r (fun y hy => h y (by simp [hy]))]
      simp
    · rw [if_neg e, if_pos (by omega)]; rfl
theorem impl_hold_eq (q : Queue) (p : Packet) (hl : q.Held.length ≤ 24) : impl_Queue_hold_d q p = some (⟨q.Begun, q.Next, q.Age, q.Held.take (holdN q.Next (seqGap q.Next p.Seq) q.Held) ++ [p] ++ q.Held.drop (holdN q.Next (seqGap q.Next p.Seq) q.Held), q.Late, q.Far, q.Twice, q.Over, q.Lost⟩ : Queue) := by
  have hm : maxLen = 9223372036854775807 := rfl
  unfold impl_Queue_hold_d
  generalize hg : seqGap q.Next p.Seq = g
  have key : ∀ (r a : List Packet), q.Held = a ++ r → loop (impl_Queue_hold_d_l2 q p) (a.length : Int) = some ((a.length + holdN q.Next g r : Nat) : Int) := by
    intro r
    induction r with
    | nil =>
      intro a ha
      rw [List.append_nil] at ha
      refine ldone ?_
      unfold impl_Queue_hold_d_l2
      rw [sel_no (by rw [ha]; omega), bnd_s, sel_f]; rfl
    | cons x r ih =>
      intro a ha
      have hlen : a.length < q.Held.length := by rw [ha]; simp
      have hx : q.Held.getD a.length dPacket = x := by rw [ha]; exact getD_mid a x _ r
      have hstep : impl_Queue_hold_d_l2 q p (a.length : Int) = sel (decide (seqGap q.Next x.Seq < g)) (some (.go ((a.length + 1 : Nat) : Int))) (some (.done (a.length : Int))) := by
        unfold impl_Queue_hold_d_l2
        simp only [Int.toNat_natCast, hx]
        rw [sel_yes (by omega), req_p (by omega), req_p (by omega), impl_SeqGap_eq, bnd_s, impl_SeqGap_eq, bnd_s, bnd_s, hg, wk (by omega) (by omega)]
        rfl
      rw [holdN]
      by_cases e : seqGap q.Next x.Seq < g
      · rw [sel_yes e] at hstep
        have := ih (a ++ [x]) (by rw [ha]; simp)
        rw [List.length_append, List.length_singleton] at this
        rw [loop_go hstep, this, if_pos e]
        congr 2
        omega
      · rw [sel_no e] at hstep
        rw [loop_done hstep, if_neg e]; rfl
  have := key q.Held [] rfl
  simp only [List.length_nil, Nat.zero_add] at this
  rw [show (0 : Int) = ((0 : Nat) : Int) from rfl, this, bnd_s]
  have hn := holdN_le q.Next g q.Held
  generalize holdN q.Next g q.Held = k at hn ⊢
  simp only [Int.toNat_natCast, List.drop_zero, List.length_nil, List.nil_append, Nat.zero_add, Nat.sub_zero, cut_all]
  rw [req_p (by omega), req_p (by simp only [List.length_take]; omega), req_p (by simp only [List.length_take, List.length_singleton]; omega), req_p (by omega), req_p (by simp only [List.length_take, List.length_append, List.length_drop, List.length_singleton]; omega)]
noncomputable def lastN (q : Queue) : Int := (loop (spec_QueueIn_l2 q) 0).getD 0
theorem lastN_spec (q : Queue) (h0 : 0 < q.Held.length) (hl : q.Held.length ≤ 24) : loop (spec_QueueIn_l2 q) 0 = some (lastN q) ∧ 0 ≤ lastN q ∧ lastN q < q.Held.length := by
  obtain ⟨o, h, h1, h2⟩ := loop_inv (f := spec_QueueIn_l2 q) (fun v => 0 ≤ v ∧ v < q.Held.length) (fun v => q.Held.length - v.toNat) (fun _ o => 0 ≤ o ∧ o < q.Held.length) (by
    intro v ⟨h1, h2⟩
    unfold spec_QueueIn_l2
    rw [wk (by omega) (by omega)]
    by_cases hv : v < (q.Held.length : Int) - 1
    · rw [sel_yes hv, req_p (by omega), req_p (by omega), bnd_s, sel_n, wk (by omega) (by omega)]
      cases (q.Held.getD v.toNat dPacket).Last with
      | true => exact .inl ⟨_, rfl, h1, h2⟩
      | false => exact .inr ⟨_, rfl, by omega, by omega, fun _ h => h⟩
    · rw [sel_no hv, bnd_s, sel_f]
      exact .inl ⟨_, rfl, h1, h2⟩) 0 (by omega)
  unfold lastN; rw [h]; exact ⟨rfl, h1, h2⟩
theorem lastN_impl (q : Queue) (h0 : 0 < q.Held.length) (hl : q.Held.length ≤ 24) : loop (impl_QueueIn_l4 q) 0 = some (lastN q) := by
  rw [← (lastN_spec q h0 hl).1]
  have : impl_QueueIn_l4 q = spec_QueueIn_l2 q := by
    funext v
    unfold impl_QueueIn_l4 spec_QueueIn_l2
    congr 1
    by_cases h : v < wrapK .i64 ((q.Held.length : Int) - 1)
    · rw [sel_yes h, sel_yes h]
      by_cases h2 : 0 ≤ v ∧ v < q.Held.length
      · rw [req_p h2, req_p h2, req_p (by omega)]
      · unfold req; rw [if_neg h2, if_neg h2]
    · rw [sel_no h, sel_no h]
  rw [this]
def putQ (q : Queue) (p : Packet) : Queue := ⟨q.Begun, q.Next, q.Age, putL q.Next (seqGap q.Next p.Seq) p q.Held, q.Late, q.Far, q.Twice, q.Over, q.Lost⟩
noncomputable def cutQ (q : Queue) : Queue := ⟨q.Begun, seqPlus (q.Held.getD (lastN q).toNat dPacket).Seq 1, 0, q.Held.drop ((lastN q).toNat + 1), q.Late, q.Far, q.Twice, more q.Over, q.Lost⟩
noncomputable def qin (q : Queue) (p : Packet) : Queue × Int :=
  if queueOk q = true then
    if packetOk p = true then
      if q.Begun = true then
        if seqGap q.Next p.Seq ≥ 40 ∨ seqGap q.Next p.Seq < -40 then (⟨q.Begun, p.Seq, 0, [p], q.Late, more q.Far, q.Twice, q.Over, q.Lost⟩, 4)
        else if seqGap q.Next p.Seq < 0 then (⟨q.Begun, q.Next, q.Age, q.Held, more q.Late, q.Far, q.Twice, q.Over, q.Lost⟩, 3)
        else if hasSeq p.Seq q.Held = true then (⟨q.Begun, q.Next, q.Age, q.Held, q.Late, q.Far, more q.Twice, q.Over, q.Lost⟩, 5)
        else if q.Held.length < 24 then (putQ q p, 0)
        else (if 0 ≤ seqGap (cutQ q).Next p.Seq ∧ seqGap (cutQ q).Next p.Seq ≤ 39 then putQ (cutQ q) p else cutQ q, 6)
      else (⟨true, p.Seq, 0, [p], 0, 0, 0, 0, 0⟩, 0)
    else (q, 2)
  else (q, 1)
theorem spec_QueueIn_eq (q : Queue) (p : Packet) (hl : q.Held.length ≤ 1048576) : spec_QueueIn q p = some (qin q p) := by
  have hm : maxLen = 9223372036854775807 := rfl
  unfold spec_QueueIn qin
  rw [spec_l23Copy_eq q hl, bnd_s, spec_QueueOk_eq, bnd_s, sel_n]
  cases hok : queueOk q with
  | false => rfl
  | true =>
    have hq := queueOk_held hok
    have hc := cnts_each hq.2.2.2.2.2.1
    rw [sel_t, if_pos rfl, spec_PacketOk_eq, bnd_s, sel_n]
    cases hpk : packetOk p with
    | false => rfl
    | true =>
      rw [sel_t, if_pos rfl, sel_n]
      cases hb : q.Begun with
      | false => rfl
      | true =>
        rw [sel_t, if_pos rfl, spec_SeqGap_eq, bnd_s, sel_or, bnd_s]
        generalize hg : seqGap q.Next p.Seq = g
        by_cases h1 : g ≥ 40 ∨ g < -40
        · rw [if_pos h1, sel_pos (by simpa using h1), spec_l23More_eq _ hc.2.1, bnd_s]
        rw [if_neg h1, sel_neg (by simp; omega)]
        by_cases h2 : g < 0
        · rw [if_pos h2, sel_yes h2, spec_l23More_eq _ hc.1, bnd_s]
        rw [if_neg h2, sel_no h2, spec_QueueHas_eq, bnd_s, hok, Bool.true_and]
        cases h3 : hasSeq p.Seq q.Held with
        | true => rw [sel_t, if_pos rfl, spec_l23More_eq _ hc.2.2.1, bnd_s]
        | false =>
          rw [sel_f, if_neg (by decide)]
          by_cases h4 : q.Held.length < 24
          · rw [if_pos h4, sel_yes (by omega), spec_l23Put_eq q p hq.2.2.1, bnd_s]; unfold putQ; rw [hb]
          rw [if_neg h4, sel_no (by omega)]
          obtain ⟨l1, l2, l3⟩ := lastN_spec q (by omega) hq.2.2.1
          rw [l1, bnd_s, spec_l23More_eq _ hc.2.2.2.1, bnd_s, req_p (by omega), req_p (by omega), spec_SeqPlus_eq, bnd_s, wk (by omega) (by omega), req_p (by omega), Int.toNat_natCast, show (lastN q + 1).toNat = (lastN q).toNat + 1 by omega, cut_all]
          rw [req_p (by simp only [List.length_nil, List.length_drop]; omega), spec_SeqGap_eq, bnd_s, spec_l01In_eq, bnd_s, List.nil_append, sel_d]
          have hcut : (⟨true, seqPlus (q.Held.getD (lastN q).toNat dPacket).Seq 1, 0, q.Held.drop ((lastN q).toNat + 1), q.Late, q.Far, q.Twice, more q.Over, q.Lost⟩ : Queue) = cutQ q := by unfold cutQ; rw [hb]
          rw [hcut]
          have hn : seqPlus (q.Held.getD (lastN q).toNat dPacket).Seq 1 = (cutQ q).Next := rfl
          rw [hn]
          by_cases h5 : 0 ≤ seqGap (cutQ q).Next p.Seq ∧ seqGap (cutQ q).Next p.Seq ≤ 39
          · rw [if_pos h5, if_pos h5, spec_l23Put_eq (cutQ q) p (by unfold cutQ; simp only [List.length_drop]; omega), bnd_s, bnd_s]; rfl
          · rw [if_neg h5, if_neg h5, bnd_s]; unfold cutQ; rw [hb]
theorem seqGap_inj {n a b : Int} (hn : 0 ≤ n ∧ n ≤ 65535) (ha : 0 ≤ a ∧ a ≤ 65535) (hb : 0 ≤ b ∧ b ≤ 65535) (h : seqGap n a = seqGap n b) : a = b := by
  unfold seqGap at h
  rw [if_pos (show 0 ≤ n ∧ n ≤ 65535 ∧ 0 ≤ a ∧ a ≤ 65535 by omega), if_pos (show 0 ≤ n ∧ n ≤ 65535 ∧ 0 ≤ b ∧ b ≤ 65535 by omega)] at h
  repeat' split at h
  all_goals omega
theorem seqPlus_in (a b : Int) : 0 ≤ seqPlus a b ∧ seqPlus a b ≤ 65535 := by
  unfold seqPlus; split <;> omega
theorem hold_put (q : Queue) (p : Packet) (hl : q.Held.length ≤ 24) (hn : 0 ≤ q.Next ∧ q.Next ≤ 65535) (hh : ∀ x ∈ q.Held, packetOk x = true) (hp : packetOk p = true) (hs : hasSeq p.Seq q.Held = false) : impl_Queue_hold_d q p = some (putQ q p) := by
  rw [impl_hold_eq q p hl]
  unfold putQ
  rw [put_hold]
  intro x hx e
  have h1 := (packetOk_iff x).1 (hh x hx)
  have h2 := (packetOk_iff p).1 hp
  have := seqGap_inj hn (by omega) (by omega) e
  have : hasSeq p.Seq q.Held = true := by
    unfold hasSeq; rw [List.any_eq_true]; exact ⟨x, hx, by simpa using this⟩
  rw [hs] at this; cases this
theorem impl_QueueIn_eq (q : Queue) (p : Packet) (hl : q.Held.length ≤ 1048576) : impl_QueueIn q p = some (qin q p) := by
  have hm : maxLen = 9223372036854775807 := rfl
  unfold impl_QueueIn qin
  rw [impl_copyQueue_eq q hl, bnd_s, impl_QueueOk_eq, bnd_s, sel_n]
  cases hok : queueOk q with
  | false => rfl
  | true =>
    have hq := queueOk_held hok
    have hc := cnts_each hq.2.2.2.2.2.1
    rw [sel_t, if_pos rfl, impl_PacketOk_eq, bnd_s, sel_n]
    cases hpk : packetOk p with
    | false => rfl
    | true =>
      rw [sel_t, if_pos rfl, sel_n]
      cases hb : q.Begun with
      | false =>
        unfold queueOk at hok
        rw [if_neg (by simp [hb]), decide_eq_true_eq] at hok
        obtain ⟨z1, z2, z3, z4, z5, z6, z7, z8⟩ := hok
        rw [sel_f, if_neg (by decide), z2, z4, z5, z6, z7, z8]
      | true =>
        rw [sel_t, if_pos rfl, impl_SeqGap_eq, bnd_s, sel_or, bnd_s]
        generalize hg : seqGap q.Next p.Seq = g
        by_cases h1 : g ≥ 40 ∨ g < -40
        · rw [if_pos h1, sel_pos (by simpa using h1), impl_counted_eq _ hc.2.1, bnd_s]
        rw [if_neg h1, sel_neg (by simp; omega)]
        by_cases h2 : g < 0
        · rw [if_pos h2, sel_yes h2, impl_counted_eq _ hc.1, bnd_s]
        rw [if_neg h2, sel_no h2, impl_QueueHas_eq, bnd_s, hok, Bool.true_and]
        cases h3 : hasSeq p.Seq q.Held with
        | true => rw [sel_t, if_pos rfl, impl_counted_eq _ hc.2.2.1, bnd_s]
        | false =>
          rw [sel_f, if_neg (by decide)]
          by_cases h4 : q.Held.length < 24
          · rw [if_pos h4, sel_neg (by simp; omega), hold_put q p hq.2.2.1 (by omega) hq.2.2.2.2.2.2 hpk h3, bnd_s]
          rw [if_neg h4, sel_pos (by simp; omega)]
          obtain ⟨l1, l2, l3⟩ := lastN_spec q (by omega) hq.2.2.1
          rw [impl_counted_eq _ hc.2.2.2.1, bnd_s, lastN_impl q (by omega) hq.2.2.1, bnd_s, req_p (by omega), impl_SeqPlus_eq, bnd_s, wk (by omega) (by omega), req_p (by omega), Int.toNat_natCast, show (lastN q + 1).toNat = (lastN q).toNat + 1 by omega, cut_all]
          rw [impl_SeqGap_eq, bnd_s, impl_within_eq, bnd_s, sel_d]
          have hcut : (⟨true, seqPlus (q.Held.getD (lastN q).toNat dPacket).Seq 1, 0, q.Held.drop ((lastN q).toNat + 1), q.Late, q.Far, q.Twice, more q.Over, q.Lost⟩ : Queue) = cutQ q := by unfold cutQ; rw [hb]
          rw [hcut]
          have hn : seqPlus (q.Held.getD (lastN q).toNat dPacket).Seq 1 = (cutQ q).Next := rfl
          rw [hn]
          by_cases h5 : 0 ≤ seqGap (cutQ q).Next p.Seq ∧ seqGap (cutQ q).Next p.Seq ≤ 39
          · have hs : hasSeq p.Seq (cutQ q).Held = false := by
              rw [Bool.eq_false_iff] at h3 ⊢
              intro e; apply h3
              unfold hasSeq at e ⊢
              rw [List.any_eq_true] at e ⊢
              obtain ⟨x, hx, e⟩ := e
              exact ⟨x, List.mem_of_mem_drop hx, e⟩
            rw [if_pos h5, if_pos h5, hold_put (cutQ q) p (by unfold cutQ; simp only [List.length_drop]; omega) (seqPlus_in _ _) (fun x hx => hq.2.2.2.2.2.2 x (List.mem_of_mem_drop hx)) hpk hs, bnd_s, bnd_s]
          · rw [if_neg h5, if_neg h5, bnd_s]; unfold cutQ; rw [hb]
theorem qin_len (q : Queue) (p : Packet) (hl : q.Held.length ≤ 1048576) : (qin q p).1.Held.length ≤ 1048577 := by
  unfold qin putQ cutQ
  repeat' split
  all_goals (simp only [putL_len, List.length_drop, List.length_cons, List.length_nil]; omega)
theorem FnExactQueueIn {p0 : Queue} {p1 : Packet} (h0 : okQueue p0) (h1 : okPacket p1) : laws_FnExactQueueIn p0 p1 = some true := by
  unfold laws_FnExactQueueIn
  obtain ⟨t, e, a1, a2, a3⟩ := laws_szQueue_ev p0 h0
  rw [e, bnd_s]
  by_cases ht : t < 0
  · rw [sel_yes ht]
  rw [sel_no ht]
  have hl := a2 (by omega)
  rw [laws_szPacket_eq p1 t (by omega) (by omega) h1.2.2.2, bnd_s]
  by_cases ht2 : (if t < p1.Bytes.size then (-1 : Int) else t - p1.Bytes.size) < 0
  · rw [sel_yes ht2]
  rw [sel_no ht2]
  have hq := qin_len p0 p1 hl
  simp only [laws_toQueue_eq p0 hl, laws_toPacket, bnd_s, spec_QueueIn_eq p0 p1 hl, impl_QueueIn_eq p0 p1 hl]
  generalize hg : qin p0 p1 = g at hq ⊢
  obtain ⟨g0, g2⟩ := g
  simp only at hq ⊢
  have hself : laws_eqQueue g0 g0 = some true := laws_eqQueue_self g0 (Nat.le_trans hq (by decide))
  simp only [hself, bnd_s, sel_t, bne_self_eq_false, sel_f, laws_eqQueue_self p0 (Nat.le_trans hl (by decide)), sel_n, laws_markQueue_eq p0 1 (by omega) (by omega) (by omega), laws_markQueue_eq g0 1 (by omega) (by omega) (by omega)]
  rw [sel_no (by omega), bnd_s, sel_f, laws_heldQueue_eq _ g0.Held 1 rfl (by omega) (by omega) (by omega), bnd_s, sel_no (by omega)]
  simp only [bne_self_eq_false, sel_f, bnd_s]
  rw [sel_no (by omega)]
end Go.Proofs.Ytplmeeookgefnaa.Pure
