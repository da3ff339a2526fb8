/- The pure statement of the law FnExactQueueTick: over numbers, texts and lists alone, what the law computes is true. Conditions: the sizes of what a machine holds. -/
import Derived.Test.YtplmeeookgefnaaDFnExactQueueTick
namespace Go.Proofs.Ytplmeeookgefnaa.Pure
open Go Go.Proofs Go.Proofs.YtplmeeookgefnaaAL Go.RowKit Go.Proofs.Ytplmeeookgefnaa.A
set_option linter.unusedVariables false
set_option linter.unusedSimpArgs false
set_option maxHeartbeats 1000000
theorem bnd_s {α β : Type} (a : α) (f : α → Option β) : bnd (some a) f = f a := rfl
theorem sel_t {β : Type} (x y : β) : sel true x y = x := rfl
theorem sel_f {β : Type} (x y : β) : sel false x y = y := rfl
theorem sel_n {β : Type} (b : Bool) (x y : β) : sel (!b) x y = sel b y x := by cases b <;> rfl
theorem sel_and (b x : Bool) : sel b (some x) (some false) = some (b && x) := by cases b <;> rfl
theorem sel_or (b x : Bool) : sel b (some true) (some x) = some (b || x) := by cases b <;> rfl
theorem sel_nor (b x : Bool) : sel b (some x) (some true) = some (!b || x) := by cases b <;> rfl
theorem sel_d {β : Type} (p : Prop) [Decidable p] (x y : β) : sel (decide p) x y = if p then x else y := by
  by_cases h : p <;> simp [h, sel]
theorem sel_pos {β : Type} {b : Bool} {x y : β} (h : b = true) : sel b x y = x := by subst h; rfl
theorem sel_neg {β : Type} {b : Bool} {x y : β} (h : b = false) : sel b x y = y := by subst h; rfl
theorem sel_yes {β : Type} {p : Prop} [Decidable p] {x y : β} (h : p) : sel (decide p) x y = x := by simp [h, sel]
theorem sel_no {β : Type} {p : Prop} [Decidable p] {x y : β} (h : ¬ p) : sel (decide p) x y = y := by simp [h, sel]
theorem req_p {β : Type} {c : Prop} [Decidable c] {k : Option β} (h : c) : req c k = k := if_pos h
theorem wk {e : Int} (h1 : -9223372036854775808 ≤ e) (h2 : e ≤ 9223372036854775807) : wrapK .i64 e = e := by
  show wrap64 e = e
  unfold wrap64; omega
theorem tmod_pos {a b : Int} (h : 0 ≤ a) : Int.tmod a b = a % b := Int.tmod_eq_emod_of_nonneg h
theorem tdiv_pos {a b : Int} (h : 0 ≤ a) : Int.tdiv a b = a / b := Int.tdiv_eq_ediv_of_nonneg h
theorem down_to {P : Nat → Prop} (n : Nat) (h0 : P n) (hs : ∀ i, i < n → P (i + 1) → P i) : ∀ i, i ≤ n → P i := by
  intro i hi
  obtain ⟨k, rfl⟩ : ∃ k, n = i + k := ⟨n - i, by omega⟩
  clear hi
  induction k generalizing i with
  | zero => exact h0
  | succ k ih =>
    refine hs i (by omega) ?_
    exact ih (i + 1) (by rw [show i + 1 + k = i + (k + 1) by omega]; exact h0) (fun j hj => hs j (by omega))
theorem lgo {V O : Type} {f : V → Option (Lp V O)} {x y : V} {r : Option O} (h : f x = some (.go y)) (k : loop f y = r) : loop f x = r := by rw [loop_go h]; exact k
theorem ldone {V O : Type} {f : V → Option (Lp V O)} {x : V} {o : O} (h : f x = some (.done o)) : loop f x = some o := loop_done h
theorem loop_inv {V O : Type} {f : V → Option (Lp V O)} (I : V → Prop) (m : V → Nat) (Q : V → O → Prop) (h : ∀ v, I v → (∃ o, f v = some (.done o) ∧ Q v o) ∨ ∃ v', f v = some (.go v') ∧ I v' ∧ m v' < m v ∧ ∀ o, Q v' o → Q v o) : ∀ v, I v → ∃ o, loop f v = some o ∧ Q v o := by
  intro v
  generalize hn : m v = n
  induction n using Nat.strongRecOn generalizing v with
  | _ n ih =>
    intro hv
    rcases h v hv with ⟨o, h1, h2⟩ | ⟨v', h1, h2, h3, h4⟩
    · exact ⟨o, loop_done h1, h2⟩
    · obtain ⟨o, h5, h6⟩ := ih (m v') (by omega) v' rfl h2
      exact ⟨o, by rw [loop_go h1]; exact h5, h4 o h6⟩
theorem getD_at {α : Type} (l : List α) (i : Nat) (h : i < l.length) (d : α) : l.getD i d = l[i] := by
  simp [List.getD_eq_getElem?_getD, List.getElem?_eq_getElem h]
theorem impl_within_eq (a b c : Int) : impl_within a b c = some (decide (b ≤ a ∧ a ≤ c)) := by
  unfold impl_within
  by_cases h : b ≤ a <;> simp [bnd, sel, h]
theorem spec_l01In_eq (a b c : Int) : spec_l01In a b c = some (decide (b ≤ a ∧ a ≤ c)) := by
  unfold spec_l01In
  by_cases h : b ≤ a <;> simp [bnd, sel, h]
theorem impl_isNumber_eq (a : Int) : impl_isNumber a = some (decide (0 ≤ a ∧ a ≤ 65535)) := by
  unfold impl_isNumber; rw [impl_within_eq]; rfl
theorem set_mid {α : Type} (a : List α) (x y : α) (b : List α) : (a ++ x :: b).set a.length y = a ++ y :: b := by
  induction a with
  | nil => rfl
  | cons z a ih => simp only [List.cons_append, List.length_cons, List.set_cons_succ, ih]
theorem getD_mid {α : Type} (a : List α) (x d : α) (b : List α) : (a ++ x :: b).getD a.length d = x := by
  induction a with
  | nil => rfl
  | cons z a ih => simp
theorem fill_loop {α β : Type} (l : List α) (g : α → β) (d : α) (e : β) {f : (Int × List β) → Option (Lp (Int × List β) (List β))}
    (h : ∀ (i : Nat) (o : List β), i < l.length → o.length = l.length → f ((i : Int), o) = some (.go (((i + 1 : Nat) : Int), o.set i (g (l.getD i d))))) (h0 : ∀ o, f ((l.length : Int), o) = some (.done o)) : loop f (0, List.replicate l.length e) = some (l.map g) := by
  have key : ∀ (r a : List α), l = a ++ r → loop f ((a.length : Int), a.map g ++ List.replicate r.length e) = some (l.map g) := by
    intro r
    induction r with
    | nil =>
      intro a ha
      rw [List.append_nil] at ha
      subst ha
      rw [loop_done (h0 _)]; simp
    | cons x r ih =>
      intro a ha
      have hlen : a.length < l.length := by rw [ha]; simp
      rw [loop_go (h a.length _ hlen (by rw [ha]; simp))]
      have e1 : l.getD a.length d = x := by rw [ha]; exact getD_mid a x d r
      have e2 : (a.map g ++ List.replicate (x :: r).length e).set a.length (g x) = (a ++ [x]).map g ++ List.replicate r.length e := by
        have := set_mid (a.map g) e (g x) (List.replicate r.length e)
        rw [List.length_map] at this
        rw [List.length_cons, List.replicate_succ, this]
        simp
      rw [e1, e2]
      have := ih (a ++ [x]) (by rw [ha]; simp)
      rw [List.length_append, List.length_singleton] at this
      exact this
  exact key l [] rfl
theorem self_loop {f : Int → Option (Lp Int (Ou Unit Bool))} (n : Nat) (h : ∀ i : Nat, i < n → f i = some (.go ((i + 1 : Nat) : Int))) (h0 : f n = some (.done (.out ()))) : loop f 0 = some (.out ()) :=
  down_to (P := fun i => loop f (i : Int) = some (.out ())) n (loop_done h0) (fun i hi ih => by rw [loop_go (h i hi)]; exact ih) 0 (by omega)
theorem sz_loop {f : (Int × Int) → Option (Lp (Int × Int) (Ou Int Int))} (n : Nat) (B : Int) (h : ∀ (i : Nat) (m : Int), i < n → 0 ≤ m → m ≤ B → f (m, (i : Int)) = some (.done (.ret (-1))) ∨ ∃ m', f (m, (i : Int)) = some (.go (m', ((i + 1 : Nat) : Int))) ∧ 0 ≤ m' ∧ m' ≤ m)
    (h0 : ∀ m, f (m, (n : Int)) = some (.done (.out m))) (m : Int) (hm : 0 ≤ m) (hB : m ≤ B) : loop f (m, 0) = some (.ret (-1)) ∨ ∃ t, loop f (m, 0) = some (.out t) ∧ 0 ≤ t ∧ t ≤ m := by
  refine down_to (P := fun i => ∀ m : Int, 0 ≤ m → m ≤ B → loop f (m, (i : Int)) = some (.ret (-1)) ∨ ∃ t, loop f (m, (i : Int)) = some (.out t) ∧ 0 ≤ t ∧ t ≤ m) n ?_ ?_ 0 (by omega) m hm hB
  · intro m h1 h2; exact .inr ⟨m, loop_done (h0 m), h1, Int.le_refl _⟩
  · intro i hi ih m h1 h2
    rcases h i m hi h1 h2 with e | ⟨m', e, h3, h4⟩
    · exact .inl (loop_done e)
    · rw [loop_go e]
      rcases ih m' h3 (by omega) with e | ⟨t, e, h5, h6⟩
      · exact .inl e
      · exact .inr ⟨t, e, h5, by omega⟩
theorem strOfNums_one (n : Int) : (strOfNums [n]).size = 1 := rfl
theorem laws_markText_ev (k : Int) (h0 : 0 < k) (h1 : k ≤ 1000000000000) : ∃ s, laws_markText k = some s := by
  unfold laws_markText
  rw [sel_no (by omega)]
  obtain ⟨o, h, h2⟩ := loop_inv (f := laws_markText_l2) (fun v => 0 ≤ v.1 ∧ v.1 + v.2.size ≤ 1000000000000) (fun v => v.1.toNat) (fun _ o => o.size ≤ 1000000000000) (by
    intro ⟨n, s⟩ ⟨a, b⟩
    unfold laws_markText_l2
    simp only at a b ⊢
    by_cases h : n > 0
    · rw [sel_yes h, req_p (by decide), strOfNums_one, req_p (by omega), req_p (by decide), tdiv_pos a]
      refine .inr ⟨_, rfl, ?_, ?_, fun _ h => h⟩
      · simp only [ByteArray.size_append, strOfNums_one]
        rw [wk (by omega) (by omega)]; omega
      · simp only
        rw [wk (by omega) (by omega)]; omega
    · rw [sel_no h]
      exact .inl ⟨_, rfl, by omega⟩) (k, ⟨#[]⟩) ⟨by simp only; omega, by simp only [show (⟨#[]⟩ : ByteArray).size = 0 from rfl]; omega⟩
  rw [h, bnd_s, req_p (by simp only [show (⟨#[109]⟩ : ByteArray).size = 1 from rfl]; omega)]
  exact ⟨_, rfl⟩
noncomputable def mT (k : Int) : ByteArray := (laws_markText k).getD ⟨#[]⟩
theorem laws_markText_eq (k : Int) (h0 : 0 < k) (h1 : k ≤ 1000000000000) : laws_markText k = some (mT k) := by
  obtain ⟨s, h⟩ := laws_markText_ev k h0 h1
  unfold mT; rw [h]; rfl
def brought (n a b : Int) : Int := if b < a ∨ n < a then a else if n > b then b else n
theorem laws_szPacket_eq (p : Packet) (m : Int) (h0 : 0 ≤ m) (h1 : m ≤ 1048576) (hs : p.Bytes.size ≤ maxLen) : laws_szPacket p m = some (if m < p.Bytes.size then -1 else m - p.Bytes.size) := by
  have hm : maxLen = 9223372036854775807 := rfl
  unfold laws_szPacket
  rw [wk (by omega) (by omega), sel_d]
  by_cases h : m < p.Bytes.size
  · rw [if_pos h, if_pos (by omega)]
  · rw [if_neg h, if_neg (by omega)]
theorem laws_szPacketS_ev (l : List Packet) (hl : l.length ≤ maxLen) (hs : ∀ x ∈ l, x.Bytes.size ≤ maxLen) (m : Int) (h0 : 0 ≤ m) (h1 : m ≤ 1048576) : ∃ t, laws_szPacketS l m = some t ∧ t ≤ m ∧ (0 ≤ t → l.length ≤ m) ∧ -1 ≤ t := by
  have hm : maxLen = 9223372036854775807 := rfl
  unfold laws_szPacketS
  rw [wk (by omega) (by omega)]
  by_cases h : m - l.length < 0
  · rw [sel_yes h]; exact ⟨_, rfl, by omega, by omega, by omega⟩
  · rw [sel_no h]
    rcases sz_loop (f := laws_szPacketS_l2 l) l.length 1048576 (by
      intro i m hi h0 h1
      unfold laws_szPacketS_l2
      simp only
      rw [sel_yes (by omega), req_p (by omega), laws_szPacket_eq _ m h0 h1 (by rw [Int.toNat_natCast, getD_at l i hi]; exact hs _ (List.getElem_mem hi)), bnd_s]
      split
      · left; rw [sel_yes (by omega)]
      · right; rw [sel_no (by omega), wk (by omega) (by omega)]; exact ⟨_, rfl, by omega, by omega⟩) (by
      intro m; unfold laws_szPacketS_l2; simp only; rw [sel_no (by omega)]) (m - l.length) (by omega) (by omega) with e | ⟨t, e, h2, h3⟩
    · rw [e]; exact ⟨_, rfl, by omega, by omega, by omega⟩
    · rw [e]; exact ⟨_, rfl, by omega, by omega, by omega⟩
theorem laws_toPacketS_eq (l : List Packet) (hl : l.length ≤ 1048576) : laws_toPacketS l = some l := by
  unfold laws_toPacketS
  rw [req_p (by omega), Int.toNat_natCast]
  have := fill_loop l (fun p : Packet => p) dPacket dPacket (f := laws_toPacketS_l2 l) (by
    intro i o hi ho
    unfold laws_toPacketS_l2
    simp only
    rw [sel_yes (by omega), req_p (by omega), laws_toPacket, bnd_s, req_p (by omega), req_p (by omega), wk (by omega) (by omega)]
    rfl) (by
    intro o; unfold laws_toPacketS_l2; simp only; rw [sel_no (by omega)])
  rw [this, bnd_s, List.map_id']
theorem laws_eqPacket_self (p : Packet) : laws_eqPacket p p = some true := by
  unfold laws_eqPacket
  simp [sel]
theorem laws_eqPacketS_self (l : List Packet) (hl : l.length ≤ 1048600) : laws_eqPacketS l l = some true := by
  unfold laws_eqPacketS
  rw [sel_neg (by simp), self_loop l.length (f := laws_eqPacketS_l2 l l) (by
    intro i hi
    unfold laws_eqPacketS_l2
    rw [sel_yes (by omega), req_p (by omega), req_p (by omega), laws_eqPacket_self, bnd_s, sel_n, sel_t, wk (by omega) (by omega)]
    rfl) (by unfold laws_eqPacketS_l2; rw [sel_no (by omega)])]
  rfl
noncomputable def markP (k : Int) : List Packet → List Packet
  | [] => []
  | _ :: r => ⟨k, (k + 1) % 3 == 0, (k + 2) % 3 == 0, mT (k + 3)⟩ :: markP (k + 4) r
theorem markP_len : ∀ (l : List Packet) (k : Int), (markP k l).length = l.length
  | [], _ => rfl
  | _ :: r, k => by rw [markP, List.length_cons, List.length_cons, markP_len r]
theorem laws_markPacketS_eq (l : List Packet) (k : Int) (h0 : 0 < k) (h1 : k ≤ 100000000) (hl : l.length ≤ 1048600) : laws_markPacketS l k = some (k + 4 * l.length, markP k l) := by
  unfold laws_markPacketS
  have key : ∀ (r a : List Packet) (j : Int), 0 < j → j + 4 * r.length ≤ 200000000 → a.length + r.length ≤ 1048600 → loop laws_markPacketS_l2 (j, (a.length : Int), a ++ r) = some (j + 4 * r.length, a ++ markP j r) := by
    intro r
    induction r with
    | nil =>
      intro a j hj1 hj2 hl
      refine ldone ?_
      unfold laws_markPacketS_l2
      simp only [List.append_nil]
      rw [sel_no (by omega)]
      simp [markP]
    | cons p r ih =>
      intro a j hj1 hj2 hl
      simp only [List.length_cons] at hj2 hl ⊢
      have hcl : ∀ x : Packet, (a ++ x :: r).length = a.length + (r.length + 1) := fun x => by simp
      refine lgo (y := (j + 4, ((a ++ [(⟨j, (j + 1) % 3 == 0, (j + 2) % 3 == 0, mT (j + 3)⟩ : Packet)]).length : Int), (a ++ [(⟨j, (j + 1) % 3 == 0, (j + 2) % 3 == 0, mT (j + 3)⟩ : Packet)]) ++ r)) ?_ ?_
      · unfold laws_markPacketS_l2
        simp only [Int.toNat_natCast, bnd_s, set_mid, getD_mid, hcl]
        rw [sel_yes (by omega), req_p (by omega), req_p (by omega), req_p (by decide), req_p (by omega), req_p (by omega), req_p (by decide), req_p (by omega), req_p (by omega), wk (e := j + 1) (by omega) (by omega), wk (e := j + 1 + 1) (by omega) (by omega), wk (e := j + 1 + 1 + 1) (by omega) (by omega), wk (e := j + 1 + 1 + 1 + 1) (by omega) (by omega), laws_markText_eq _ (by omega) (by omega), bnd_s, req_p (by omega), req_p (by omega), wk (e := (a.length : Int) + 1) (by omega) (by omega), tmod_pos (by omega), tmod_pos (by omega)]
        rw [show j + 1 + 1 + 1 + 1 = j + 4 by omega, show j + 1 + 1 + 1 = j + 3 by omega, show j + 1 + 1 = j + 2 by omega]
        simp
      · rw [ih _ (j + 4) (by omega) (by omega) (by simp; omega)]
        simp only [markP, List.append_assoc, List.singleton_append]
        congr 2
        omega
  have := key l [] k h0 (by omega) (by simp; omega)
  simp only [List.length_nil, List.nil_append] at this
  rw [show ((k, 0, l) : Int × Int × List Packet) = (k, ((0 : Nat) : Int), l) from rfl, this]
  rfl
theorem laws_heldPacketS_eq (l : List Packet) (k : Int) (h0 : 0 < k) (h1 : k ≤ 100000000) (hl : l.length ≤ 1048600) : laws_heldPacketS (markP k l) k = some (k + 4 * l.length) := by
  unfold laws_heldPacketS
  have key : ∀ (r a : List Packet) (j : Int), 0 < j → j + 4 * r.length ≤ 200000000 → a.length + r.length ≤ 1048600 → loop (laws_heldPacketS_l2 (a ++ markP j r)) (j, (a.length : Int)) = some (.out (j + 4 * r.length)) := by
    intro r
    induction r with
    | nil =>
      intro a j hj1 hj2 hl
      refine ldone ?_
      unfold laws_heldPacketS_l2
      simp only [markP, List.append_nil]
      rw [sel_no (by omega)]
      simp
    | cons p r ih =>
      intro a j hj1 hj2 hl
      simp only [List.length_cons] at hj2 hl ⊢
      have hcl : ∀ (x : Packet) (r : List Packet), (a ++ x :: r).length = a.length + (r.length + 1) := fun x r => by simp
      refine lgo (y := (j + 4, ((a ++ [(⟨j, (j + 1) % 3 == 0, (j + 2) % 3 == 0, mT (j + 3)⟩ : Packet)]).length : Int))) ?_ ?_
      · unfold laws_heldPacketS_l2
        simp only [markP, Int.toNat_natCast, getD_mid, hcl, markP_len]
        rw [sel_yes (by omega), req_p (by omega), sel_neg (by simp), req_p (by omega), req_p (by decide), wk (e := j + 1) (by omega) (by omega), tmod_pos (by omega), sel_neg (by simp), req_p (by omega), req_p (by decide), wk (e := j + 1 + 1) (by omega) (by omega), tmod_pos (by omega), sel_neg (by rw [show j + 1 + 1 = j + 2 by omega]; simp), req_p (by omega),
          wk (e := j + 1 + 1 + 1) (by omega) (by omega), laws_markText_eq _ (by omega) (by omega), bnd_s, sel_neg (by rw [show j + 1 + 1 + 1 = j + 3 by omega]; simp), wk (e := j + 1 + 1 + 1 + 1) (by omega) (by omega), wk (e := (a.length : Int) + 1) (by omega) (by omega)]
        simp; omega
      · have := ih (a ++ [(⟨j, (j + 1) % 3 == 0, (j + 2) % 3 == 0, mT (j + 3)⟩ : Packet)]) (j + 4) (by omega) (by omega) (by simp; omega)
        simp only [markP]
        rw [List.append_assoc, List.singleton_append] at this
        rw [this]
        congr 2
        omega
  have := key l [] k h0 (by omega) (by simp; omega)
  simp only [List.length_nil, List.nil_append] at this
  rw [show ((k, 0) : Int × Int) = (k, ((0 : Nat) : Int)) from rfl, this]
  rfl
def seqPlus (a b : Int) : Int := if 0 ≤ a ∧ a ≤ 65535 ∧ 0 ≤ b ∧ b ≤ 65535 then (a + b) % 65536 else 0
theorem impl_SeqPlus_eq (a b : Int) : impl_SeqPlus a b = some (seqPlus a b) := by
  unfold impl_SeqPlus seqPlus
  simp only [impl_isNumber_eq, bnd_s, sel_nor]
  by_cases h : 0 ≤ a ∧ a ≤ 65535 ∧ 0 ≤ b ∧ b ≤ 65535
  · rw [if_pos h, sel_neg (by simp; omega), req_p (by decide), wk (by omega) (by omega), tmod_pos (by omega)]
  · rw [if_neg h, sel_pos (by simp; omega)]
theorem spec_SeqPlus_eq (a b : Int) : spec_SeqPlus a b = some (seqPlus a b) := by
  unfold spec_SeqPlus seqPlus
  simp only [spec_l01In_eq, bnd_s, sel_nor]
  by_cases h : 0 ≤ a ∧ a ≤ 65535 ∧ 0 ≤ b ∧ b ≤ 65535
  · rw [if_pos h, sel_neg (by simp; omega), req_p (by decide), wk (by omega) (by omega), tmod_pos (by omega)]
  · rw [if_neg h, sel_pos (by simp; omega)]
def seqGap (a b : Int) : Int := if 0 ≤ a ∧ a ≤ 65535 ∧ 0 ≤ b ∧ b ≤ 65535 then (if b - a > 32767 then b - a - 65536 else if b - a < -32768 then b - a + 65536 else b - a) else 0
theorem impl_SeqGap_eq (a b : Int) : impl_SeqGap a b = some (seqGap a b) := by
  unfold impl_SeqGap seqGap
  simp only [impl_isNumber_eq, bnd_s, sel_nor]
  by_cases h : 0 ≤ a ∧ a ≤ 65535 ∧ 0 ≤ b ∧ b ≤ 65535
  · rw [if_pos h, sel_neg (by simp; omega), req_p (by decide), wk (e := b - a) (by omega) (by omega), wk (e := b - a + 65536) (by omega) (by omega), tmod_pos (by omega), wk (by omega) (by omega), sel_d]
    repeat' split
    all_goals (simp only [bnd_s]; congr 1; omega)
  · rw [if_neg h, sel_pos (by simp; omega)]
theorem spec_SeqGap_eq (a b : Int) : spec_SeqGap a b = some (seqGap a b) := by
  unfold spec_SeqGap seqGap
  simp only [spec_l01In_eq, bnd_s, sel_nor]
  by_cases h : 0 ≤ a ∧ a ≤ 65535 ∧ 0 ≤ b ∧ b ≤ 65535
  · rw [if_pos h, sel_neg (by simp; omega), wk (e := b - a) (by omega) (by omega), wk (by omega) (by omega)]
    simp only [sel_d]
    by_cases h1 : b - a > 32767
    · rw [if_pos h1, if_pos h1, bnd_s, if_neg (by omega), bnd_s]
    · rw [if_neg h1, if_neg h1, bnd_s]
      by_cases h2 : b - a < -32768
      · rw [if_pos h2, if_pos h2, bnd_s, wk (by omega) (by omega)]
      · rw [if_neg h2, if_neg h2, bnd_s]
  · rw [if_neg h, sel_pos (by simp; omega)]
def packetOk (p : Packet) : Bool := decide (0 ≤ p.Seq ∧ p.Seq ≤ 65535 ∧ 1 ≤ p.Bytes.size ∧ p.Bytes.size ≤ 400)
theorem packetOk_iff (p : Packet) : packetOk p = true ↔ 0 ≤ p.Seq ∧ p.Seq ≤ 65535 ∧ 1 ≤ p.Bytes.size ∧ p.Bytes.size ≤ 400 := by simp [packetOk]
theorem impl_PacketOk_eq (p : Packet) : impl_PacketOk p = some (packetOk p) := by
  unfold impl_PacketOk packetOk
  simp only [impl_isNumber_eq, impl_within_eq, bnd_s, sel_and]
  congr 1
  rw [Bool.eq_iff_iff]; simp; omega
theorem spec_PacketOk_eq (p : Packet) : spec_PacketOk p = some (packetOk p) := by
  unfold spec_PacketOk packetOk
  simp only [spec_l01In_eq, bnd_s, sel_and]
  congr 1
  rw [Bool.eq_iff_iff]; simp; omega
def cnt (n : Int) : Bool := decide (0 ≤ n ∧ n ≤ 1000000000)
theorem spec_l23Count_eq (n : Int) : spec_l23Count n = some (cnt n) := by
  unfold spec_l23Count cnt
  rw [spec_l01In_eq, bnd_s]
def more (n : Int) : Int := if n + 1 < 1000000000 then n + 1 else 1000000000
theorem impl_counted_eq (n : Int) (h : cnt n = true) : impl_counted n = some (more n) := by
  have h' : 0 ≤ n ∧ n ≤ 1000000000 := by simpa [cnt] using h
  unfold impl_counted more
  rw [wk (by omega) (by omega)]
  congr 1
  split <;> split <;> omega
theorem spec_Brought_eq (n a b : Int) : spec_Brought n a b = some (brought n a b) := by
  unfold spec_Brought brought
  rw [sel_or, bnd_s]
  by_cases h : b < a ∨ n < a
  · rw [if_pos h, sel_pos (by simpa using h)]
  · rw [if_neg h, sel_neg (by simp; omega), sel_d]; split <;> rfl
theorem spec_l23More_eq (n : Int) (h : cnt n = true) : spec_l23More n = some (more n) := by
  have h' : 0 ≤ n ∧ n ≤ 1000000000 := by simpa [cnt] using h
  unfold spec_l23More more
  rw [wk (by omega) (by omega), spec_Brought_eq, bnd_s]
  unfold brought
  congr 1
  repeat' split
  all_goals omega
def heldOk (next : Int) : Int → List Packet → Bool
  | _, [] => true
  | last, p :: r => packetOk p && decide (last < seqGap next p.Seq ∧ seqGap next p.Seq < 40) && heldOk next (seqGap next p.Seq) r
def cnts (q : Queue) : Bool := cnt q.Late && cnt q.Far && cnt q.Twice && cnt q.Over && cnt q.Lost
def queueOk (q : Queue) : Bool :=
  if q.Begun = true then decide (0 ≤ q.Next ∧ q.Next ≤ 65535 ∧ 0 ≤ q.Age ∧ q.Age ≤ 20 ∧ q.Held.length ≤ 24) && (heldOk q.Next (-1) q.Held && cnts q)
  else decide (q.Next = 0 ∧ q.Age = 0 ∧ q.Held.length = 0 ∧ q.Late = 0 ∧ q.Far = 0 ∧ q.Twice = 0 ∧ q.Over = 0 ∧ q.Lost = 0)
theorem spec_QueueOk_eq (q : Queue) : spec_QueueOk q = some (queueOk q) := by
  unfold spec_QueueOk queueOk
  simp only [spec_l01In_eq, spec_l23Count_eq, bnd_s, sel_and, sel_nor]
  by_cases hb : q.Begun = true
  · rw [sel_neg (by simp [hb]), if_pos hb]
    by_cases h1 : 0 ≤ q.Next ∧ q.Next ≤ 65535 ∧ 0 ≤ q.Age ∧ q.Age ≤ 20 ∧ q.Held.length ≤ 24
    · rw [sel_neg (by simp; omega), decide_eq_true h1, Bool.true_and]
      have key : ∀ (r a : List Packet) (last : Int), q.Held = a ++ r → loop (spec_QueueOk_l2 q) (last, (a.length : Int)) = some (if heldOk q.Next last r = true then .out () else .ret false) := by
        intro r
        induction r with
        | nil =>
          intro a last ha
          rw [List.append_nil] at ha
          refine ldone ?_
          unfold spec_QueueOk_l2
          simp only
          rw [sel_no (by rw [ha]; omega)]; rfl
        | cons p r ih =>
          intro a last ha
          have hlen : a.length < q.Held.length := by rw [ha]; simp
          have hp : q.Held.getD a.length dPacket = p := by rw [ha]; exact getD_mid a p _ r
          have hstep : spec_QueueOk_l2 q (last, (a.length : Int)) = sel (!(packetOk p && decide (last < seqGap q.Next p.Seq ∧ seqGap q.Next p.Seq < 40))) (some (.done (.ret false))) (some (.go (seqGap q.Next p.Seq, ((a.length + 1 : Nat) : Int)))) := by
            unfold spec_QueueOk_l2
            simp only [Int.toNat_natCast, hp]
            rw [sel_yes (by omega), req_p (by omega), spec_SeqGap_eq, bnd_s, req_p (by omega), spec_PacketOk_eq, bnd_s, wk (by omega) (by omega), sel_or, sel_nor, bnd_s]
            congr 1
            cases packetOk p <;> rw [Bool.eq_iff_iff] <;> simp <;> omega
          by_cases h : packetOk p = true ∧ last < seqGap q.Next p.Seq ∧ seqGap q.Next p.Seq < 40
          · rw [lgo (by rw [hstep, sel_neg (by simp [h])]) rfl]
            have := ih (a ++ [p]) (seqGap q.Next p.Seq) (by rw [ha]; simp)
            rw [List.length_append, List.length_singleton] at this
            rw [this]
            simp [heldOk, h]
          · rw [ldone (by rw [hstep, sel_pos (by simp only [Bool.not_eq_true', Bool.and_eq_false_iff, decide_eq_false_iff_not]; by_cases hp : packetOk p = true; exact .inr (fun e => h ⟨hp, e⟩); exact .inl (by simpa using hp))])]
            rw [if_neg]
            simp only [heldOk, Bool.and_eq_true, decide_eq_true_eq]
            exact fun e => h ⟨e.1.1, e.1.2⟩
      have := key q.Held [] (-1) rfl
      simp only [List.length_nil] at this
      rw [show (((-1 : Int), (0 : Int))) = ((-1), ((0 : Nat) : Int)) from rfl, this, bnd_s]
      by_cases h2 : heldOk q.Next (-1) q.Held = true
      · rw [if_pos h2, h2]; simp only [cnts, Bool.true_and, Bool.and_assoc]
      · rw [if_neg h2]; simp only [Bool.not_eq_true] at h2; rw [h2]; rfl
    · rw [sel_pos (by simp; omega), decide_eq_false h1, Bool.false_and]
  · rw [sel_pos (by simpa using hb), if_neg hb]
    congr 1
    rw [Bool.eq_iff_iff]; simp
theorem impl_QueueOk_eq (q : Queue) : impl_QueueOk q = some (queueOk q) := by
  unfold impl_QueueOk queueOk
  simp only [impl_isNumber_eq, impl_within_eq, bnd_s, sel_and, sel_nor]
  by_cases hb : q.Begun = true
  · rw [sel_neg (by simp [hb]), if_pos hb]
    by_cases h1 : 0 ≤ q.Next ∧ q.Next ≤ 65535 ∧ 0 ≤ q.Age ∧ q.Age ≤ 20 ∧ q.Held.length ≤ 24
    · rw [sel_neg (by simp; omega), decide_eq_true h1, Bool.true_and]
      have key : ∀ (r a : List Packet) (last : Int), q.Held = a ++ r → -1 ≤ last → last < 40 → loop (impl_QueueOk_l2 q) (last, (a.length : Int)) = some (if heldOk q.Next last r = true then .out () else .ret false) := by
        intro r
        induction r with
        | nil =>
          intro a last ha _ _
          rw [List.append_nil] at ha
          refine ldone ?_
          unfold impl_QueueOk_l2
          simp only
          rw [sel_no (by rw [ha]; omega)]; rfl
        | cons p r ih =>
          intro a last ha hl1 hl2
          have hlen : a.length < q.Held.length := by rw [ha]; simp
          have hp : q.Held.getD a.length dPacket = p := by rw [ha]; exact getD_mid a p _ r
          have hstep : impl_QueueOk_l2 q (last, (a.length : Int)) = sel (!(packetOk p && decide (last < seqGap q.Next p.Seq ∧ seqGap q.Next p.Seq < 40))) (some (.done (.ret false))) (some (.go (seqGap q.Next p.Seq, ((a.length + 1 : Nat) : Int)))) := by
            unfold impl_QueueOk_l2
            simp only [Int.toNat_natCast, hp]
            rw [sel_yes (by omega), req_p (by omega), impl_SeqGap_eq, bnd_s, impl_PacketOk_eq, bnd_s, wk (by omega) (by omega), impl_within_eq, bnd_s, wk (by omega) (by omega), sel_nor, bnd_s]
            congr 1
            cases packetOk p <;> rw [Bool.eq_iff_iff] <;> simp <;> omega
          by_cases h : packetOk p = true ∧ last < seqGap q.Next p.Seq ∧ seqGap q.Next p.Seq < 40
          · rw [lgo (by rw [hstep, sel_neg (by simp [h])]) rfl]
            have := ih (a ++ [p]) (seqGap q.Next p.Seq) (by rw [ha]; simp) (by omega) (by omega)
            rw [List.length_append, List.length_singleton] at this
            rw [this]
            simp [heldOk, h]
          · rw [ldone (by rw [hstep, sel_pos (by simp only [Bool.not_eq_true', Bool.and_eq_false_iff, decide_eq_false_iff_not]; by_cases hp : packetOk p = true; exact .inr (fun e => h ⟨hp, e⟩); exact .inl (by simpa using hp))])]
            rw [if_neg]
            simp only [heldOk, Bool.and_eq_true, decide_eq_true_eq]
            exact fun e => h ⟨e.1.1, e.1.2⟩
      have := key q.Held [] (-1) rfl (by omega) (by omega)
      simp only [List.length_nil] at this
      rw [show (((-1 : Int), (0 : Int))) = ((-1), ((0 : Nat) : Int)) from rfl, this, bnd_s]
      by_cases h2 : heldOk q.Next (-1) q.Held = true
      · rw [if_pos h2, h2, Bool.true_and]
        have st : ∀ i : Nat, i < 5 → impl_QueueOk_l4 q (i : Int) = sel (cnt (([q.Late, q.Far, q.Twice, q.Over, q.Lost]).getD i 0)) (some (.go ((i + 1 : Nat) : Int))) (some (.done (.ret false))) := by
          intro i hi
          unfold impl_QueueOk_l4
          simp only [List.length_cons, List.length_nil]
          rw [sel_yes (by omega), req_p (by omega), req_p (by omega), impl_within_eq, bnd_s, sel_n, wk (by omega) (by omega)]
          rfl
        have e5 : loop (impl_QueueOk_l4 q) ((5 : Nat) : Int) = some (.out ()) := ldone (by unfold impl_QueueOk_l4; rw [sel_no (by simp)])
        have go : ∀ i : Nat, i < 5 → loop (impl_QueueOk_l4 q) (i : Int) = sel (cnt (([q.Late, q.Far, q.Twice, q.Over, q.Lost]).getD i 0)) (loop (impl_QueueOk_l4 q) ((i + 1 : Nat) : Int)) (some (.ret false)) := by
          intro i hi
          have := st i hi
          cases h : cnt (([q.Late, q.Far, q.Twice, q.Over, q.Lost]).getD i 0) with
          | true => rw [h] at this; exact loop_go this
          | false => rw [h] at this; exact loop_done this
        have := go 0 (by omega)
        rw [show (0 : Int) = ((0 : Nat) : Int) from rfl, this, go 1 (by omega), go 2 (by omega), go 3 (by omega), go 4 (by omega), e5]
        simp only [cnts, List.getD_cons_zero, List.getD_cons_succ]
        cases cnt q.Late <;> cases cnt q.Far <;> cases cnt q.Twice <;> cases cnt q.Over <;> cases cnt q.Lost <;> rfl
      · rw [if_neg h2]; simp only [Bool.not_eq_true] at h2; rw [h2]; rfl
    · rw [sel_pos (by simp; omega), decide_eq_false h1, Bool.false_and]
  · rw [sel_pos (by simpa using hb), if_neg hb]
    congr 1
    rw [Bool.eq_iff_iff]; simp
theorem heldOk_mem : ∀ {l : List Packet} {n last : Int}, heldOk n last l = true → ∀ p ∈ l, packetOk p = true
  | [], _, _, _, p, hp => by simp at hp
  | q :: r, n, last, h, p, hp => by
    rw [heldOk, Bool.and_eq_true, Bool.and_eq_true] at h
    rcases List.mem_cons.1 hp with rfl | hp
    · exact h.1.1
    · exact heldOk_mem h.2 p hp
theorem queueOk_held {q : Queue} (h : queueOk q = true) : 0 ≤ q.Next ∧ q.Next ≤ 65535 ∧ q.Held.length ≤ 24 ∧ 0 ≤ q.Age ∧ q.Age ≤ 20 ∧ cnts q = true ∧ ∀ p ∈ q.Held, packetOk p = true := by
  unfold queueOk at h
  by_cases hb : q.Begun = true
  · rw [if_pos hb, Bool.and_eq_true, Bool.and_eq_true, decide_eq_true_eq] at h
    exact ⟨h.1.1, h.1.2.1, h.1.2.2.2.2, h.1.2.2.1, h.1.2.2.2.1, h.2.2, heldOk_mem h.2.1⟩
  · rw [if_neg hb, decide_eq_true_eq] at h
    obtain ⟨h1, h2, h3, h4, h5, h6, h7, h8⟩ := h
    have : q.Held = [] := List.length_eq_zero_iff.1 h3
    refine ⟨by omega, by omega, by omega, by omega, by omega, ?_, by rw [this]; simp⟩
    unfold cnts cnt; rw [h4, h5, h6, h7, h8]; rfl
theorem cnts_each {q : Queue} (h : cnts q = true) : cnt q.Late = true ∧ cnt q.Far = true ∧ cnt q.Twice = true ∧ cnt q.Over = true ∧ cnt q.Lost = true := by
  unfold cnts at h
  simp only [Bool.and_eq_true] at h
  exact ⟨h.1.1.1.1, h.1.1.1.2, h.1.1.2, h.1.2, h.2⟩
theorem impl_copyQueue_eq (q : Queue) (h : q.Held.length ≤ 1048576) : impl_copyQueue q = some q := by
  have hm : maxLen = 9223372036854775807 := rfl
  unfold impl_copyQueue
  rw [req_p (by simp only [List.length_nil]; omega), List.nil_append]
theorem spec_l23Copy_eq (q : Queue) (h : q.Held.length ≤ 1048576) : spec_l23Copy q = some q := by
  have hm : maxLen = 9223372036854775807 := rfl
  unfold spec_l23Copy
  rw [req_p (by simp only [List.length_nil]; omega), List.nil_append]
def readyN (next : Int) : Nat → List Packet → Nat
  | _, [] => 0
  | i, p :: r => if p.Seq = seqPlus next i then (if p.Last = true then i + 1 else readyN next (i + 1) r) else 0
theorem readyN_le (next : Int) : ∀ (r : List Packet) (i : Nat), readyN next i r ≤ i + r.length
  | [], i => by simp [readyN]
  | p :: r, i => by
    rw [readyN]
    have := readyN_le next r (i + 1)
    split
    · split
      · simp
      · simp; omega
    · omega
theorem gap_iff {n s : Int} {i : Nat} (h1 : 0 ≤ n ∧ n ≤ 65535) (h2 : 0 ≤ s ∧ s ≤ 65535) (h3 : i ≤ 24) : seqGap n s = i ↔ s = seqPlus n i := by
  unfold seqGap seqPlus
  rw [if_pos (show 0 ≤ n ∧ n ≤ 65535 ∧ 0 ≤ s ∧ s ≤ 65535 by omega), if_pos (show 0 ≤ n ∧ n ≤ 65535 ∧ (0 : Int) ≤ (i : Int) ∧ (i : Int) ≤ 65535 by omega)]
  constructor
  · intro h
    split at h
    · omega
    · split at h <;> omega
  · intro h
    split
    · omega
    · split <;> omega
theorem seqPlus_succ {n : Int} {i : Nat} (h1 : 0 ≤ n ∧ n ≤ 65535) (h3 : i ≤ 24) : seqPlus (seqPlus n i) 1 = seqPlus n ((i + 1 : Nat) : Int) := by
  unfold seqPlus
  rw [if_pos (show 0 ≤ n ∧ n ≤ 65535 ∧ (0 : Int) ≤ (i : Int) ∧ (i : Int) ≤ 65535 by omega), if_pos (by omega), if_pos (by omega)]
  omega
theorem spec_l23Ready_eq (q : Queue) (h : queueOk q = true) : spec_l23Ready q = some (readyN q.Next 0 q.Held : Int) := by
  have hq := queueOk_held h
  unfold spec_l23Ready
  have key : ∀ (r a : List Packet), q.Held = a ++ r → loop (spec_l23Ready_l2 q) (a.length : Int) = some (.ret (readyN q.Next a.length r : Int)) ∨ loop (spec_l23Ready_l2 q) (a.length : Int) = some (.out ()) ∧ readyN q.Next a.length r = 0 := by
    intro r
    induction r with
    | nil =>
      intro a ha
      rw [List.append_nil] at ha
      exact .inr ⟨ldone (by unfold spec_l23Ready_l2; rw [sel_no (by rw [ha]; omega)]), rfl⟩
    | cons p r ih =>
      intro a ha
      have hlen : a.length < q.Held.length := by rw [ha]; simp
      have hp : q.Held.getD a.length dPacket = p := by rw [ha]; exact getD_mid a p _ r
      have hpk := (packetOk_iff p).1 (hq.2.2.2.2.2.2 p (by rw [ha]; simp))
      have hstep : spec_l23Ready_l2 q (a.length : Int) = sel (seqGap q.Next p.Seq != (a.length : Int)) (some (.done (.ret 0))) (sel p.Last (some (.done (.ret ((a.length + 1 : Nat) : Int)))) (some (.go ((a.length + 1 : Nat) : Int)))) := by
        unfold spec_l23Ready_l2
        simp only [Int.toNat_natCast, hp]
        rw [sel_yes (by omega), req_p (by omega), spec_SeqGap_eq, bnd_s, req_p (by omega), wk (by omega) (by omega)]
        rfl
      have hg := gap_iff (n := q.Next) (s := p.Seq) (i := a.length) (by omega) (by omega) (by omega)
      by_cases e : p.Seq = seqPlus q.Next a.length
      · rw [sel_neg (by simp; exact hg.2 e)] at hstep
        by_cases e2 : p.Last = true
        · rw [sel_pos e2] at hstep
          left; rw [loop_done hstep, readyN, if_pos e, if_pos e2]
        · rw [sel_neg (by simpa using e2)] at hstep
          have := ih (a ++ [p]) (by rw [ha]; simp)
          rw [List.length_append, List.length_singleton] at this
          rw [loop_go hstep, readyN, if_pos e, if_neg e2]; exact this
      · rw [sel_pos (by simp; exact fun x => e (hg.1 x))] at hstep
        left; rw [loop_done hstep, readyN, if_neg e]; rfl
  rcases key q.Held [] rfl with e | ⟨e, e2⟩
  · simp only [List.length_nil] at e
    rw [show (0 : Int) = ((0 : Nat) : Int) from rfl, e]; rfl
  · simp only [List.length_nil] at e e2
    rw [show (0 : Int) = ((0 : Nat) : Int) from rfl, e, e2]; rfl
def skipN (next : Int) : List Packet → Nat
  | [] => 0
  | p :: r => if p.First = true ∧ p.Seq ≠ next then 0 else skipN next r + 1
theorem skipN_le (next : Int) : ∀ r : List Packet, skipN next r ≤ r.length
  | [] => by simp [skipN]
  | p :: r => by
    rw [skipN]; have := skipN_le next r
    split
    · omega
    · simp; omega
def newNext (q : Queue) : Int := if skipN q.Next q.Held < q.Held.length then (q.Held.getD (skipN q.Next q.Held) dPacket).Seq else seqPlus (q.Held.getD (q.Held.length - 1) dPacket).Seq 1
def qtick (q : Queue) (w : Int) : Queue × List Packet × Int :=
  if queueOk q = true ∧ 0 ≤ w ∧ w ≤ 20 then
    (if 0 < readyN q.Next 0 q.Held then (⟨q.Begun, seqPlus q.Next (readyN q.Next 0 q.Held), 0, q.Held.drop (readyN q.Next 0 q.Held), q.Late, q.Far, q.Twice, q.Over, q.Lost⟩, q.Held.take (readyN q.Next 0 q.Held), 1)
    else if q.Held.length = 0 then (⟨q.Begun, q.Next, 0, q.Held, q.Late, q.Far, q.Twice, q.Over, q.Lost⟩, [], 0)
    else if q.Age < w then (⟨q.Begun, q.Next, q.Age + 1, q.Held, q.Late, q.Far, q.Twice, q.Over, q.Lost⟩, [], 0)
    else (⟨q.Begun, newNext q, 0, q.Held.drop (skipN q.Next q.Held), q.Late, q.Far, q.Twice, q.Over, more q.Lost⟩, [], 2))
  else (q, [], 0)
theorem skip_spec (q : Queue) (hl : q.Held.length ≤ 24) : loop (spec_QueueTick_l2 q) 0 = some (skipN q.Next q.Held : Int) := by
  have key : ∀ (r a : List Packet), q.Held = a ++ r → loop (spec_QueueTick_l2 q) (a.length : Int) = some ((a.length + skipN q.Next r : Nat) : Int) := by
    intro r
    induction r with
    | nil =>
      intro a ha
      rw [List.append_nil] at ha
      refine ldone ?_
      unfold spec_QueueTick_l2
      rw [sel_no (by rw [ha]; omega), bnd_s, sel_f]; rfl
    | cons p r ih =>
      intro a ha
      have hlen : a.length < q.Held.length := by rw [ha]; simp
      have hp : q.Held.getD a.length dPacket = p := by rw [ha]; exact getD_mid a p _ r
      have hstep : spec_QueueTick_l2 q (a.length : Int) = sel (!(p.First && p.Seq != q.Next)) (some (.go ((a.length + 1 : Nat) : Int))) (some (.done (a.length : Int))) := by
        unfold spec_QueueTick_l2
        simp only [Int.toNat_natCast, hp]
        rw [sel_yes (by omega), req_p (by omega), req_p (by omega), req_p (by omega), req_p (by omega), wk (by omega) (by omega), sel_nor, bnd_s]
        congr 1
        cases p.First <;> simp
      by_cases e : p.First = true ∧ p.Seq ≠ q.Next
      · rw [sel_neg (by simp [e])] at hstep
        rw [loop_done hstep, skipN, if_pos e]; rfl
      · rw [sel_pos (by
          rw [Bool.not_eq_true', Bool.and_eq_false_iff]
          by_cases h1 : p.First = true
          · right; simp; exact Classical.byContradiction fun h2 => e ⟨h1, h2⟩
          · left; simpa using h1)] at hstep
        have := ih (a ++ [p]) (by rw [ha]; simp)
        rw [List.length_append, List.length_singleton] at this
        rw [loop_go hstep, skipN, if_neg e, this]
        congr 2
        omega
  have := key q.Held [] rfl
  simpa using this
theorem cut_all {α : Type} (l : List α) (k : Nat) : (l.drop k).take (l.length - k) = l.drop k := List.take_of_length_le (by rw [List.length_drop]; omega)
theorem spec_QueueTick_eq (q : Queue) (w : Int) (hl : q.Held.length ≤ 1048576) : spec_QueueTick q w = some (qtick q w) := by
  have hm : maxLen = 9223372036854775807 := rfl
  unfold spec_QueueTick qtick
  rw [spec_l23Copy_eq q hl, bnd_s, spec_QueueOk_eq, bnd_s]
  by_cases h : queueOk q = true ∧ 0 ≤ w ∧ w ≤ 20
  · rw [if_pos h, sel_pos h.1, spec_l01In_eq, bnd_s, bnd_s, sel_neg (by simpa using h.2), spec_l23Ready_eq q h.1, bnd_s]
    have hq := queueOk_held h.1
    have hr := readyN_le q.Next q.Held 0
    generalize readyN q.Next 0 q.Held = r at hr ⊢
    simp only [Int.toNat_natCast, Int.toNat_zero, List.drop_zero, List.length_nil, List.nil_append, Nat.zero_add, Nat.sub_zero, cut_all]
    by_cases hr0 : 0 < r
    · rw [if_pos hr0, sel_yes (by omega), req_p (by omega), req_p (by simp only [List.length_take]; omega), spec_SeqPlus_eq, bnd_s, req_p (by omega), req_p (by simp only [List.length_drop]; omega)]
    · rw [if_neg hr0, sel_no (by omega)]
      by_cases h0 : q.Held.length = 0
      · rw [if_pos h0, sel_pos (by simp [h0])]
      · rw [if_neg h0, sel_neg (by simpa using h0)]
        by_cases ha : q.Age < w
        · rw [if_pos ha, sel_yes ha, wk (by omega) (by omega)]
        · rw [if_neg ha, sel_no ha, skip_spec q hq.2.2.1, bnd_s]
          have hs := skipN_le q.Next q.Held
          have hn : newNext q = if skipN q.Next q.Held < q.Held.length then (q.Held.getD (skipN q.Next q.Held) dPacket).Seq else seqPlus (q.Held.getD (q.Held.length - 1) dPacket).Seq 1 := rfl
          generalize skipN q.Next q.Held = s at hs hn ⊢
          rw [spec_l23More_eq _ (cnts_each hq.2.2.2.2.2.1).2.2.2.2]
          simp only [Int.toNat_natCast, cut_all, bnd_s, hn]
          by_cases hsl : s < q.Held.length
          · rw [sel_yes (by omega), req_p (by omega), req_p (by omega), bnd_s, req_p (by omega), req_p (by simp only [List.length_drop]; omega), if_pos hsl]
          · rw [sel_no (by omega), wk (by omega) (by omega), req_p (by omega), req_p (by omega), spec_SeqPlus_eq, bnd_s, bnd_s, req_p (by omega), req_p (by simp only [List.length_drop]; omega), if_neg hsl]
            rw [show ((s : Int) - 1).toNat = q.Held.length - 1 by omega]
  · rw [if_neg h]
    cases hb : queueOk q with
    | false => rw [sel_f, bnd_s, sel_t]
    | true =>
      have h' : ¬ (0 ≤ w ∧ w ≤ 20) := fun e => h ⟨hb, e⟩
      rw [sel_t, spec_l01In_eq, bnd_s, bnd_s, sel_pos (by simp; omega)]
def tickTaken (q : Queue) (r : Nat) : Queue × List Packet × Int := (⟨q.Begun, seqPlus q.Next r, 0, q.Held.drop r, q.Late, q.Far, q.Twice, q.Over, q.Lost⟩, q.Held.take r, 1)
theorem tick_loop (q : Queue) (h : queueOk q = true) : loop (impl_QueueTick_l2 q q) 0 = some (if 0 < readyN q.Next 0 q.Held then .ret (tickTaken q (readyN q.Next 0 q.Held)) else .out ()) := by
  have hm : maxLen = 9223372036854775807 := rfl
  have hq := queueOk_held h
  have key : ∀ (r a : List Packet), q.Held = a ++ r → loop (impl_QueueTick_l2 q q) (a.length : Int) = some (if 0 < readyN q.Next a.length r then .ret (tickTaken q (readyN q.Next a.length r)) else .out ()) := by
    intro r
    induction r with
    | nil =>
      intro a ha
      rw [List.append_nil] at ha
      refine ldone ?_
      unfold impl_QueueTick_l2
      rw [sel_no (by rw [ha]; omega)]; rfl
    | cons p r ih =>
      intro a ha
      have hlen : a.length < q.Held.length := by rw [ha]; simp
      have hp : q.Held.getD a.length dPacket = p := by rw [ha]; exact getD_mid a p _ r
      have hstep : impl_QueueTick_l2 q q (a.length : Int) = sel (p.Seq != seqPlus q.Next a.length) (some (.done (.out ()))) (sel p.Last (some (.done (.ret (⟨q.Begun, seqPlus p.Seq 1, 0, q.Held.drop (a.length + 1), q.Late, q.Far, q.Twice, q.Over, q.Lost⟩, q.Held.take (a.length + 1), 1)))) (some (.go ((a.length + 1 : Nat) : Int)))) := by
        unfold impl_QueueTick_l2
        rw [wk (e := (a.length : Int) + 1) (by omega) (by omega)]
        have e1 : ((a.length : Int) + 1).toNat = a.length + 1 := by omega
        simp only [Int.toNat_natCast, hp, e1, Int.toNat_zero, List.drop_zero, List.length_nil, List.nil_append, Nat.zero_add, Nat.sub_zero, cut_all]
        rw [sel_yes (by omega), req_p (by omega), req_p (by omega), impl_SeqPlus_eq, bnd_s, req_p (by omega), req_p (by simp only [List.length_take]; omega), req_p (by omega), req_p (by simp only [List.length_drop]; omega), impl_SeqPlus_eq, bnd_s]
        rfl
      by_cases e : p.Seq = seqPlus q.Next a.length
      · rw [sel_neg (by simpa using e)] at hstep
        by_cases e2 : p.Last = true
        · rw [sel_pos e2] at hstep
          rw [loop_done hstep, readyN, if_pos e, if_pos e2, if_pos (by omega), e, seqPlus_succ (by omega) (by omega)]
          rfl
        · rw [sel_neg (by simpa using e2)] at hstep
          have := ih (a ++ [p]) (by rw [ha]; simp)
          rw [List.length_append, List.length_singleton] at this
          rw [loop_go hstep, readyN, if_pos e, if_neg e2, this]
      · rw [sel_pos (by simpa using e)] at hstep
        rw [loop_done hstep, readyN, if_neg e]; rfl
  exact key q.Held [] rfl
theorem skip_impl (q : Queue) (n : Int) (hl : q.Held.length ≤ 24) : loop (impl_QueueTick_l4 q n) 0 = some (if skipN q.Next q.Held < q.Held.length then (q.Held.getD (skipN q.Next q.Held) dPacket).Seq else n, q.Held.drop (skipN q.Next q.Held)) := by
  have hm : maxLen = 9223372036854775807 := rfl
  have key : ∀ (r a : List Packet), q.Held = a ++ r → loop (impl_QueueTick_l4 q n) (a.length : Int) = some (if a.length + skipN q.Next r < q.Held.length then (q.Held.getD (a.length + skipN q.Next r) dPacket).Seq else n, q.Held.drop (a.length + skipN q.Next r)) := by
    intro r
    induction r with
    | nil =>
      intro a ha
      rw [List.append_nil] at ha
      refine ldone ?_
      unfold impl_QueueTick_l4
      rw [sel_no (by rw [ha]; omega)]
      rw [show skipN q.Next [] = 0 from rfl, Nat.add_zero, if_neg (by rw [ha]; omega), List.drop_eq_nil_of_le (by rw [ha]; omega)]
    | cons p r ih =>
      intro a ha
      have hlen : a.length < q.Held.length := by rw [ha]; simp
      have hp : q.Held.getD a.length dPacket = p := by rw [ha]; exact getD_mid a p _ r
      have hstep : impl_QueueTick_l4 q n (a.length : Int) = sel (p.First && p.Seq != q.Next) (some (.done (p.Seq, q.Held.drop a.length))) (some (.go ((a.length + 1 : Nat) : Int))) := by
        unfold impl_QueueTick_l4
        simp only [Int.toNat_natCast, hp, List.length_nil, List.nil_append, Nat.zero_add, cut_all]
        rw [sel_yes (by omega), req_p (by omega), req_p (by omega), req_p (by simp only [List.length_drop]; omega), wk (by omega) (by omega), sel_and, bnd_s]
        rfl
      by_cases e : p.First = true ∧ p.Seq ≠ q.Next
      · rw [sel_pos (by simp [e])] at hstep
        rw [loop_done hstep, skipN, if_pos e, Nat.add_zero, if_pos hlen, hp]
      · rw [sel_neg (by
          rw [Bool.and_eq_false_iff]
          by_cases h1 : p.First = true
          · right; simp; exact Classical.byContradiction fun h2 => e ⟨h1, h2⟩
          · left; simpa using h1)] at hstep
        have := ih (a ++ [p]) (by rw [ha]; simp)
        rw [List.length_append, List.length_singleton] at this
        rw [loop_go hstep, skipN, if_neg e, this, show a.length + 1 + skipN q.Next r = a.length + (skipN q.Next r + 1) by omega]
  have := key q.Held [] rfl
  simpa using this
theorem impl_QueueTick_eq (q : Queue) (w : Int) (hl : q.Held.length ≤ 1048576) : impl_QueueTick q w = some (qtick q w) := by
  unfold impl_QueueTick qtick
  rw [impl_copyQueue_eq q hl, bnd_s, impl_QueueOk_eq, bnd_s]
  by_cases h : queueOk q = true ∧ 0 ≤ w ∧ w ≤ 20
  · rw [if_pos h, sel_pos h.1, impl_within_eq, bnd_s, bnd_s, sel_neg (by simpa using h.2), tick_loop q h.1, bnd_s]
    have hq := queueOk_held h.1
    by_cases hr0 : 0 < readyN q.Next 0 q.Held
    · rw [if_pos hr0, if_pos hr0]; rfl
    · rw [if_neg hr0, if_neg hr0]
      simp only
      by_cases h0 : q.Held.length = 0
      · rw [if_pos h0, sel_pos (by simp [h0])]
      · rw [if_neg h0, sel_neg (by simpa using h0)]
        by_cases ha : q.Age < w
        · rw [if_pos ha, sel_yes ha, wk (by omega) (by omega)]
        · rw [if_neg ha, sel_no ha, impl_counted_eq _ (cnts_each hq.2.2.2.2.2.1).2.2.2.2, bnd_s, wk (by omega) (by omega), req_p (by omega), impl_SeqPlus_eq, bnd_s, skip_impl q _ hq.2.2.1, bnd_s]
          rw [show ((q.Held.length : Int) - 1).toNat = q.Held.length - 1 by omega]
          rfl
  · rw [if_neg h]
    cases hb : queueOk q with
    | false => rw [sel_f, bnd_s, sel_t]
    | true =>
      have h' : ¬ (0 ≤ w ∧ w ≤ 20) := fun e => h ⟨hb, e⟩
      rw [sel_t, impl_within_eq, bnd_s, bnd_s, sel_pos (by simp; omega)]
theorem laws_toQueue_eq (q : Queue) (h : q.Held.length ≤ 1048576) : laws_toQueue q = some q := by
  unfold laws_toQueue
  rw [laws_toPacketS_eq q.Held h, bnd_s]
theorem laws_eqQueue_self (q : Queue) (h : q.Held.length ≤ 1048600) : laws_eqQueue q q = some true := by
  unfold laws_eqQueue
  simp only [laws_eqPacketS_self q.Held h, bnd_s, bne_self_eq_false, sel_f, beq_self_eq_true, Bool.not_true]
theorem laws_markQueue_eq (q : Queue) (k : Int) (h0 : 0 < k) (h1 : k ≤ 100000000) (hl : q.Held.length ≤ 1048600) : laws_markQueue q k = some (k + 4 * q.Held.length, (⟨q.Begun, q.Next, q.Age, markP k q.Held, q.Late, q.Far, q.Twice, q.Over, q.Lost⟩ : Queue)) := by
  unfold laws_markQueue
  rw [laws_markPacketS_eq q.Held k h0 h1 hl, bnd_s]
theorem laws_heldQueue_eq (q : Queue) (l : List Packet) (k : Int) (h : q.Held = markP k l) (h0 : 0 < k) (h1 : k ≤ 100000000) (hl : l.length ≤ 1048600) : laws_heldQueue q k = some (k + 4 * l.length) := by
  unfold laws_heldQueue
  rw [h, laws_heldPacketS_eq l k h0 h1 hl, bnd_s, sel_no (by omega)]
theorem laws_szQueue_ev (q : Queue) (h : okQueue q) : ∃ t, laws_szQueue q 1048576 = some t ∧ t ≤ 1048576 ∧ (0 ≤ t → q.Held.length ≤ 1048576) ∧ -1 ≤ t := by
  unfold okQueue at h
  obtain ⟨t, e, h1, h2, h3⟩ := laws_szPacketS_ev q.Held h.2.2.2.1.1 (fun x hx => (h.2.2.2.1.2 x hx).2.2.2) 1048576 (by omega) (by omega)
  unfold laws_szQueue
  rw [e, bnd_s, sel_d]
  split
  · exact ⟨_, rfl, by omega, by omega, by omega⟩
  · exact ⟨_, rfl, by omega, fun h => by have := h2 h; omega, by omega⟩
theorem qtick_len (q : Queue) (w : Int) (hl : q.Held.length ≤ 1048576) : (qtick q w).1.Held.length ≤ 1048576 ∧ (qtick q w).2.1.length ≤ 1048576 := by
  unfold qtick
  repeat' split
  all_goals (simp only [List.length_take, List.length_drop, List.length_nil]; omega)
theorem FnExactQueueTick {p0 : Queue} {p1 : Int} (h0 : okQueue p0) (h1 : (Lit.int .i64 p1).wf = true) : laws_FnExactQueueTick p0 p1 = some true := by
  unfold laws_FnExactQueueTick
  obtain ⟨t, e, a1, a2, a3⟩ := laws_szQueue_ev p0 h0
  rw [e, bnd_s]
  by_cases ht : t < 0
  · rw [sel_yes ht]
  rw [sel_no ht]
  have hl := a2 (by omega)
  have hq := qtick_len p0 p1 hl
  rw [laws_toQueue_eq p0 hl, bnd_s, spec_QueueTick_eq p0 p1 hl, bnd_s, bnd_s, impl_QueueTick_eq p0 p1 hl, bnd_s]
  generalize hg : qtick p0 p1 = g at hq ⊢
  obtain ⟨g0, g1, g2⟩ := g
  simp only at hq ⊢
  simp only [laws_eqQueue_self g0 (Nat.le_trans hq.1 (by decide)), laws_eqPacketS_self g1 (Nat.le_trans hq.2 (by decide)), bnd_s, sel_t, bne_self_eq_false, sel_f, laws_eqQueue_self p0 (Nat.le_trans hl (by decide)), sel_n, laws_markQueue_eq p0 1 (by omega) (by omega) (by omega), laws_markQueue_eq g0 1 (by omega) (by omega) (by omega)]
  rw [sel_no (by omega), laws_markPacketS_eq g1 _ (by omega) (by omega) (by omega)]
  simp only [bnd_s, sel_f]
  rw [laws_heldQueue_eq _ g0.Held 1 rfl (by omega) (by omega) (by omega), bnd_s, sel_no (by omega), laws_heldPacketS_eq g1 _ (by omega) (by omega) (by omega), bnd_s, sel_no (by omega)]
  simp only [bne_self_eq_false, sel_f, laws_toQueue_eq p0 hl, bnd_s, impl_QueueTick_eq p0 p1 hl, hg, laws_eqQueue_self g0 (Nat.le_trans hq.1 (by decide)), laws_eqPacketS_self g1 (Nat.le_trans hq.2 (by decide)), sel_t]
  rw [sel_no (by omega), laws_heldPacketS_eq g1 _ (by omega) (by omega) (by omega), bnd_s, sel_no (by omega)]
  simp only [bne_self_eq_false, sel_f]
end Go.Proofs.Ytplmeeookgefnaa.Pure
