/- The pure statement of the law FnExactPictureOf: over numbers, texts and lists alone, what the law computes is true. Conditions: the sizes of what a machine holds. -/
import Derived.Test.YtplmeeookgefnaaDFnExactPictureOf
namespace Go.Proofs.Ytplmeeookgefnaa.A.Pure
open Go Go.Proofs Go.Proofs.YtplmeeookgefnaaAL Go.RowKit
set_option linter.unusedVariables false
set_option linter.unusedSimpArgs false
set_option maxHeartbeats 1000000
theorem bnd_s {α β : Type} (a : α) (f : α → Option β) : bnd (some a) f = f a := rfl
theorem bnd_e {α β : Type} {x : Option α} {a : α} {f : α → Option β} (h : x = some a) : bnd x f = f a := by subst h; rfl
theorem sel_t {β : Type} (x y : β) : sel true x y = x := rfl
theorem sel_f {β : Type} (x y : β) : sel false x y = y := rfl
theorem sel_n {β : Type} (b : Bool) (x y : β) : sel (!b) x y = sel b y x := by cases b <;> rfl
theorem sel_and (b x : Bool) : sel b (some x) (some false) = some (b && x) := by cases b <;> rfl
theorem sel_nor (b x : Bool) : sel b (some x) (some true) = some (!b || x) := by cases b <;> rfl
theorem sel_nand (b x : Bool) : sel b (some false) (some x) = some (!b && x) := by cases b <;> rfl
theorem sel_d {β : Type} (p : Prop) [Decidable p] (x y : β) : sel (decide p) x y = if p then x else y := by
  by_cases h : p <;> simp [h, sel]
theorem sel_pos {β : Type} {b : Bool} {x y : β} (h : b = true) : sel b x y = x := by subst h; rfl
theorem sel_neg {β : Type} {b : Bool} {x y : β} (h : b = false) : sel b x y = y := by subst h; rfl
theorem sel_yes {β : Type} {p : Prop} [Decidable p] {x y : β} (h : p) : sel (decide p) x y = x := by simp [h, sel]
theorem sel_no {β : Type} {p : Prop} [Decidable p] {x y : β} (h : ¬ p) : sel (decide p) x y = y := by simp [h, sel]
theorem req_p {β : Type} {c : Prop} [Decidable c] {k : Option β} (h : c) : req c k = k := if_pos h
theorem wk {e : Int} (h1 : -9223372036854775808 ≤ e) (h2 : e ≤ 9223372036854775807) : wrapK .i64 e = e := by
  show wrap64 e = e
  unfold wrap64; omega
theorem tmod_pos {a b : Int} (h : 0 ≤ a) : Int.tmod a b = a % b := Int.tmod_eq_emod_of_nonneg h
theorem tdiv_pos {a b : Int} (h : 0 ≤ a) : Int.tdiv a b = a / b := Int.tdiv_eq_ediv_of_nonneg h
theorem down_to {P : Nat → Prop} (n : Nat) (h0 : P n) (hs : ∀ i, i < n → P (i + 1) → P i) : ∀ i, i ≤ n → P i := by
  intro i hi
  obtain ⟨k, rfl⟩ : ∃ k, n = i + k := ⟨n - i, by omega⟩
  clear hi
  induction k generalizing i with
  | zero => exact h0
  | succ k ih =>
    refine hs i (by omega) ?_
    exact ih (i + 1) (by rw [show i + 1 + k = i + (k + 1) by omega]; exact h0) (fun j hj => hs j (by omega))
theorem lgo {V O : Type} {f : V → Option (Lp V O)} {x y : V} {r : Option O} (h : f x = some (.go y)) (k : loop f y = r) : loop f x = r := by rw [loop_go h]; exact k
theorem ldone {V O : Type} {f : V → Option (Lp V O)} {x : V} {o : O} (h : f x = some (.done o)) : loop f x = some o := loop_done h
theorem loop_inv {V O : Type} {f : V → Option (Lp V O)} (I : V → Prop) (m : V → Nat) (Q : V → O → Prop) (h : ∀ v, I v → (∃ o, f v = some (.done o) ∧ Q v o) ∨ ∃ v', f v = some (.go v') ∧ I v' ∧ m v' < m v ∧ ∀ o, Q v' o → Q v o) : ∀ v, I v → ∃ o, loop f v = some o ∧ Q v o := by
  intro v
  generalize hn : m v = n
  induction n using Nat.strongRecOn generalizing v with
  | _ n ih =>
    intro hv
    rcases h v hv with ⟨o, h1, h2⟩ | ⟨v', h1, h2, h3, h4⟩
    · exact ⟨o, loop_done h1, h2⟩
    · obtain ⟨o, h5, h6⟩ := ih (m v') (by omega) v' rfl h2
      exact ⟨o, by rw [loop_go h1]; exact h5, h4 o h6⟩
theorem getD_at {α : Type} (l : List α) (i : Nat) (h : i < l.length) (d : α) : l.getD i d = l[i] := by
  simp [List.getD_eq_getElem?_getD, List.getElem?_eq_getElem h]
theorem impl_within_eq (a b c : Int) : impl_within a b c = some (decide (b ≤ a ∧ a ≤ c)) := by
  unfold impl_within
  by_cases h : b ≤ a <;> simp [bnd, sel, h]
theorem spec_l01In_eq (a b c : Int) : spec_l01In a b c = some (decide (b ≤ a ∧ a ≤ c)) := by
  unfold spec_l01In
  by_cases h : b ≤ a <;> simp [bnd, sel, h]
theorem impl_isNumber_eq (a : Int) : impl_isNumber a = some (decide (0 ≤ a ∧ a ≤ 65535)) := by
  unfold impl_isNumber; rw [impl_within_eq]; rfl
theorem set_mid {α : Type} (a : List α) (x y : α) (b : List α) : (a ++ x :: b).set a.length y = a ++ y :: b := by
  induction a with
  | nil => rfl
  | cons z a ih => simp only [List.cons_append, List.length_cons, List.set_cons_succ, ih]
theorem getD_mid {α : Type} (a : List α) (x d : α) (b : List α) : (a ++ x :: b).getD a.length d = x := by
  induction a with
  | nil => rfl
  | cons z a ih => simp
theorem fill_loop {α β : Type} (l : List α) (g : α → β) (d : α) (e : β) {f : (Int × List β) → Option (Lp (Int × List β) (List β))}
    (h : ∀ (i : Nat) (o : List β), i < l.length → o.length = l.length → f ((i : Int), o) = some (.go (((i + 1 : Nat) : Int), o.set i (g (l.getD i d))))) (h0 : ∀ o, f ((l.length : Int), o) = some (.done o)) : loop f (0, List.replicate l.length e) = some (l.map g) := by
  have key : ∀ (r a : List α), l = a ++ r → loop f ((a.length : Int), a.map g ++ List.replicate r.length e) = some (l.map g) := by
    intro r
    induction r with
    | nil =>
      intro a ha
      rw [List.append_nil] at ha
      subst ha
      rw [loop_done (h0 _)]; simp
    | cons x r ih =>
      intro a ha
      have hlen : a.length < l.length := by rw [ha]; simp
      rw [loop_go (h a.length _ hlen (by rw [ha]; simp))]
      have e1 : l.getD a.length d = x := by rw [ha]; exact getD_mid a x d r
      have e2 : (a.map g ++ List.replicate (x :: r).length e).set a.length (g x) = (a ++ [x]).map g ++ List.replicate r.length e := by
        have := set_mid (a.map g) e (g x) (List.replicate r.length e)
        rw [List.length_map] at this
        rw [List.length_cons, List.replicate_succ, this]
        simp
      rw [e1, e2]
      have := ih (a ++ [x]) (by rw [ha]; simp)
      rw [List.length_append, List.length_singleton] at this
      exact this
  exact key l [] rfl
theorem self_loop {f : Int → Option (Lp Int (Ou Unit Bool))} (n : Nat) (h : ∀ i : Nat, i < n → f i = some (.go ((i + 1 : Nat) : Int))) (h0 : f n = some (.done (.out ()))) : loop f 0 = some (.out ()) :=
  down_to (P := fun i => loop f (i : Int) = some (.out ())) n (loop_done h0) (fun i hi ih => by rw [loop_go (h i hi)]; exact ih) 0 (by omega)
theorem sz_loop {f : (Int × Int) → Option (Lp (Int × Int) (Ou Int Int))} (n : Nat) (B : Int) (h : ∀ (i : Nat) (m : Int), i < n → 0 ≤ m → m ≤ B → f (m, (i : Int)) = some (.done (.ret (-1))) ∨ ∃ m', f (m, (i : Int)) = some (.go (m', ((i + 1 : Nat) : Int))) ∧ 0 ≤ m' ∧ m' ≤ m)
    (h0 : ∀ m, f (m, (n : Int)) = some (.done (.out m))) (m : Int) (hm : 0 ≤ m) (hB : m ≤ B) : loop f (m, 0) = some (.ret (-1)) ∨ ∃ t, loop f (m, 0) = some (.out t) ∧ 0 ≤ t ∧ t ≤ m := by
  refine down_to (P := fun i => ∀ m : Int, 0 ≤ m → m ≤ B → loop f (m, (i : Int)) = some (.ret (-1)) ∨ ∃ t, loop f (m, (i : Int)) = some (.out t) ∧ 0 ≤ t ∧ t ≤ m) n ?_ ?_ 0 (by omega) m hm hB
  · intro m h1 h2; exact .inr ⟨m, loop_done (h0 m), h1, Int.le_refl _⟩
  · intro i hi ih m h1 h2
    rcases h i m hi h1 h2 with e | ⟨m', e, h3, h4⟩
    · exact .inl (loop_done e)
    · rw [loop_go e]
      rcases ih m' h3 (by omega) with e | ⟨t, e, h5, h6⟩
      · exact .inl e
      · exact .inr ⟨t, e, h5, by omega⟩
theorem strOfNums_one (n : Int) : (strOfNums [n]).size = 1 := rfl
theorem laws_markText_ev (k : Int) (h0 : 0 < k) (h1 : k ≤ 1000000000000) : ∃ s, laws_markText k = some s := by
  unfold laws_markText
  rw [sel_no (by omega)]
  obtain ⟨o, h, h2⟩ := loop_inv (f := laws_markText_l2) (fun v => 0 ≤ v.1 ∧ v.1 + v.2.size ≤ 1000000000000) (fun v => v.1.toNat) (fun _ o => o.size ≤ 1000000000000) (by
    intro ⟨n, s⟩ ⟨a, b⟩
    unfold laws_markText_l2
    simp only at a b ⊢
    by_cases h : n > 0
    · rw [sel_yes h, req_p (by decide), strOfNums_one, req_p (by omega), req_p (by decide), tdiv_pos a]
      refine .inr ⟨_, rfl, ?_, ?_, fun _ h => h⟩
      · simp only [ByteArray.size_append, strOfNums_one]
        rw [wk (by omega) (by omega)]; omega
      · simp only
        rw [wk (by omega) (by omega)]; omega
    · rw [sel_no h]
      exact .inl ⟨_, rfl, by omega⟩) (k, ⟨#[]⟩) ⟨by simp only; omega, by simp only [show (⟨#[]⟩ : ByteArray).size = 0 from rfl]; omega⟩
  rw [h, bnd_s, req_p (by simp only [show (⟨#[109]⟩ : ByteArray).size = 1 from rfl]; omega)]
  exact ⟨_, rfl⟩
noncomputable def mT (k : Int) : ByteArray := (laws_markText k).getD ⟨#[]⟩
theorem laws_markText_eq (k : Int) (h0 : 0 < k) (h1 : k ≤ 1000000000000) : laws_markText k = some (mT k) := by
  obtain ⟨s, h⟩ := laws_markText_ev k h0 h1
  unfold mT; rw [h]; rfl
theorem laws_szPacket_eq (p : Packet) (m : Int) (h0 : 0 ≤ m) (h1 : m ≤ 1048576) (hs : p.Bytes.size ≤ maxLen) : laws_szPacket p m = some (if m < p.Bytes.size then -1 else m - p.Bytes.size) := by
  have hm : maxLen = 9223372036854775807 := rfl
  unfold laws_szPacket
  rw [wk (by omega) (by omega), sel_d]
  by_cases h : m < p.Bytes.size
  · rw [if_pos h, if_pos (by omega)]
  · rw [if_neg h, if_neg (by omega)]
theorem laws_szPacketS_ev (l : List Packet) (hl : l.length ≤ maxLen) (hs : ∀ x ∈ l, x.Bytes.size ≤ maxLen) (m : Int) (h0 : 0 ≤ m) (h1 : m ≤ 1048576) : ∃ t, laws_szPacketS l m = some t ∧ t ≤ m ∧ (0 ≤ t → l.length ≤ m) ∧ -1 ≤ t := by
  have hm : maxLen = 9223372036854775807 := rfl
  unfold laws_szPacketS
  rw [wk (by omega) (by omega)]
  by_cases h : m - l.length < 0
  · rw [sel_yes h]; exact ⟨_, rfl, by omega, by omega, by omega⟩
  · rw [sel_no h]
    rcases sz_loop (f := laws_szPacketS_l2 l) l.length 1048576 (by
      intro i m hi h0 h1
      unfold laws_szPacketS_l2
      simp only
      rw [sel_yes (by omega), req_p (by omega), laws_szPacket_eq _ m h0 h1 (by rw [Int.toNat_natCast, getD_at l i hi]; exact hs _ (List.getElem_mem hi)), bnd_s]
      split
      · left; rw [sel_yes (by omega)]
      · right; rw [sel_no (by omega), wk (by omega) (by omega)]; exact ⟨_, rfl, by omega, by omega⟩) (by
      intro m; unfold laws_szPacketS_l2; simp only; rw [sel_no (by omega)]) (m - l.length) (by omega) (by omega) with e | ⟨t, e, h2, h3⟩
    · rw [e]; exact ⟨_, rfl, by omega, by omega, by omega⟩
    · rw [e]; exact ⟨_, rfl, by omega, by omega, by omega⟩
theorem laws_toPacketS_eq (l : List Packet) (hl : l.length ≤ 1048576) : laws_toPacketS l = some l := by
  unfold laws_toPacketS
  rw [req_p (by omega), Int.toNat_natCast]
  have := fill_loop l (fun p : Packet => p) dPacket dPacket (f := laws_toPacketS_l2 l) (by
    intro i o hi ho
    unfold laws_toPacketS_l2
    simp only
    rw [sel_yes (by omega), req_p (by omega), laws_toPacket, bnd_s, req_p (by omega), req_p (by omega), wk (by omega) (by omega)]
    rfl) (by
    intro o; unfold laws_toPacketS_l2; simp only; rw [sel_no (by omega)])
  rw [this, bnd_s, List.map_id']
theorem laws_eqPacket_self (p : Packet) : laws_eqPacket p p = some true := by
  unfold laws_eqPacket
  simp [sel]
theorem laws_eqPacketS_self (l : List Packet) (hl : l.length ≤ 1048600) : laws_eqPacketS l l = some true := by
  unfold laws_eqPacketS
  rw [sel_neg (by simp), self_loop l.length (f := laws_eqPacketS_l2 l l) (by
    intro i hi
    unfold laws_eqPacketS_l2
    rw [sel_yes (by omega), req_p (by omega), req_p (by omega), laws_eqPacket_self, bnd_s, sel_n, sel_t, wk (by omega) (by omega)]
    rfl) (by unfold laws_eqPacketS_l2; rw [sel_no (by omega)])]
  rfl
noncomputable def markP (k : Int) : List Packet → List Packet
  | [] => []
  | _ :: r => ⟨k, (k + 1) % 3 == 0, (k + 2) % 3 == 0, mT (k + 3)⟩ :: markP (k + 4) r
theorem laws_markPacketS_eq (l : List Packet) (k : Int) (h0 : 0 < k) (h1 : k ≤ 100000000) (hl : l.length ≤ 1048600) : laws_markPacketS l k = some (k + 4 * l.length, markP k l) := by
  unfold laws_markPacketS
  have key : ∀ (r a : List Packet) (j : Int), 0 < j → j + 4 * r.length ≤ 200000000 → a.length + r.length ≤ 1048600 → loop laws_markPacketS_l2 (j, (a.length : Int), a ++ r) = some (j + 4 * r.length, a ++ markP j r) := by
    intro r
    induction r with
    | nil =>
      intro a j hj1 hj2 hl
      refine ldone ?_
      unfold laws_markPacketS_l2
      simp only [List.append_nil]
      rw [sel_no (by omega)]
      simp [markP]
    | cons p r ih =>
      intro a j hj1 hj2 hl
      simp only [List.length_cons] at hj2 hl ⊢
      have hcl : ∀ x : Packet, (a ++ x :: r).length = a.length + (r.length + 1) := fun x => by simp
      refine lgo (y := (j + 4, ((a ++ [(⟨j, (j + 1) % 3 == 0, (j + 2) % 3 == 0, mT (j + 3)⟩ : Packet)]).length : Int), (a ++ [(⟨j, (j + 1) % 3 == 0, (j + 2) % 3 == 0, mT (j + 3)⟩ : Packet)]) ++ r)) ?_ ?_
      · unfold laws_markPacketS_l2
        simp only [Int.toNat_natCast, bnd_s, set_mid, getD_mid, hcl]
        rw [sel_yes (by omega), req_p (by omega), req_p (by omega), req_p (by decide), req_p (by omega), req_p (by omega), req_p (by decide), req_p (by omega), req_p (by omega), wk (e := j + 1) (by omega) (by omega), wk (e := j + 1 + 1) (by omega) (by omega), wk (e := j + 1 + 1 + 1) (by omega) (by omega), wk (e := j + 1 + 1 + 1 + 1) (by omega) (by omega), laws_markText_eq _ (by omega) (by omega), bnd_s, req_p (by omega), req_p (by omega), wk (e := (a.length : Int) + 1) (by omega) (by omega), tmod_pos (by omega), tmod_pos (by omega)]
        rw [show j + 1 + 1 + 1 + 1 = j + 4 by omega, show j + 1 + 1 + 1 = j + 3 by omega, show j + 1 + 1 = j + 2 by omega]
        simp
      · rw [ih _ (j + 4) (by omega) (by omega) (by simp; omega)]
        simp only [markP, List.append_assoc, List.singleton_append]
        congr 2
        omega
  have := key l [] k h0 (by omega) (by simp; omega)
  simp only [List.length_nil, List.nil_append] at this
  rw [show ((k, 0, l) : Int × Int × List Packet) = (k, ((0 : Nat) : Int), l) from rfl, this]
  rfl
def seqPlus (a b : Int) : Int := if 0 ≤ a ∧ a ≤ 65535 ∧ 0 ≤ b ∧ b ≤ 65535 then (a + b) % 65536 else 0
theorem impl_SeqPlus_eq (a b : Int) : impl_SeqPlus a b = some (seqPlus a b) := by
  unfold impl_SeqPlus seqPlus
  simp only [impl_isNumber_eq, bnd_s, sel_nor]
  by_cases h : 0 ≤ a ∧ a ≤ 65535 ∧ 0 ≤ b ∧ b ≤ 65535
  · rw [if_pos h, sel_neg (by simp; omega), req_p (by decide), wk (by omega) (by omega), tmod_pos (by omega)]
  · rw [if_neg h, sel_pos (by simp; omega)]
theorem spec_SeqPlus_eq (a b : Int) : spec_SeqPlus a b = some (seqPlus a b) := by
  unfold spec_SeqPlus seqPlus
  simp only [spec_l01In_eq, bnd_s, sel_nor]
  by_cases h : 0 ≤ a ∧ a ≤ 65535 ∧ 0 ≤ b ∧ b ≤ 65535
  · rw [if_pos h, sel_neg (by simp; omega), req_p (by decide), wk (by omega) (by omega), tmod_pos (by omega)]
  · rw [if_neg h, sel_pos (by simp; omega)]
def packetOk (p : Packet) : Bool := decide (0 ≤ p.Seq ∧ p.Seq ≤ 65535 ∧ 1 ≤ p.Bytes.size ∧ p.Bytes.size ≤ 400)
theorem packetOk_iff (p : Packet) : packetOk p = true ↔ 0 ≤ p.Seq ∧ p.Seq ≤ 65535 ∧ 1 ≤ p.Bytes.size ∧ p.Bytes.size ≤ 400 := by simp [packetOk]
theorem impl_PacketOk_eq (p : Packet) : impl_PacketOk p = some (packetOk p) := by
  unfold impl_PacketOk packetOk
  simp only [impl_isNumber_eq, impl_within_eq, bnd_s, sel_and]
  congr 1
  rw [Bool.eq_iff_iff]; simp; omega
theorem spec_PacketOk_eq (p : Packet) : spec_PacketOk p = some (packetOk p) := by
  unfold spec_PacketOk packetOk
  simp only [spec_l01In_eq, bnd_s, sel_and]
  congr 1
  rw [Bool.eq_iff_iff]; simp; omega
theorem size_zero (b : ByteArray) : (b.toList == (⟨#[]⟩ : ByteArray).toList) = decide (b.size = 0) := by
  rw [ByteArray.toList_eq, ByteArray.toList_eq, Bool.eq_iff_iff]
  obtain ⟨⟨l⟩⟩ := b
  show (l == []) = true ↔ decide (l.length = 0) = true
  cases l <;> simp
def byteL (l : List Int) : Prop := ∀ x ∈ l, 0 ≤ x ∧ x ≤ 255
theorem nums_str (l : List Int) (h : byteL l) : numsOf (strOfNums l) = l := by
  unfold numsOf
  rw [strOfNums_data, List.map_map]
  have : ∀ x ∈ l, ((fun b : UInt8 => (b.toNat : Int)) ∘ fun n : Int => UInt8.ofNat n.toNat) x = x := by
    intro x hx
    have := h x hx
    simp only [Function.comp_apply, UInt8.toNat_ofNat']
    omega
  rw [List.map_congr_left this, List.map_id']
theorem laws_eqStringS_self (l : List ByteArray) (hl : l.length ≤ 9223372036854775806) : laws_eqStringS l l = some true := by
  unfold laws_eqStringS
  rw [sel_neg (by simp), self_loop l.length (f := laws_eqStringS_l2 l l) (by
    intro i hi
    unfold laws_eqStringS_l2
    rw [sel_yes (by omega), req_p (by omega), req_p (by omega), sel_neg (by simp), wk (by omega) (by omega)]
    rfl) (by unfold laws_eqStringS_l2; rw [sel_no (by omega)])]
  rfl
noncomputable def markT (k : Int) : List ByteArray → List ByteArray
  | [] => []
  | _ :: r => mT k :: markT (k + 1) r
theorem markT_len : ∀ (l : List ByteArray) (k : Int), (markT k l).length = l.length
  | [], _ => rfl
  | _ :: r, k => by rw [markT, List.length_cons, List.length_cons, markT_len r]
theorem laws_markStringS_eq (l : List ByteArray) (k : Int) (h0 : 0 < k) (h1 : k ≤ 1000000000) (hl : l.length ≤ 100000000) : laws_markStringS l k = some (k + l.length, markT k l) := by
  unfold laws_markStringS
  have key : ∀ (r a : List ByteArray) (j : Int), 0 < j → j + r.length ≤ 2000000000 → a.length + r.length ≤ 100000000 → loop laws_markStringS_l2 (j, (a.length : Int), a ++ r) = some (j + r.length, a ++ markT j r) := by
    intro r
    induction r with
    | nil =>
      intro a j hj1 hj2 hl
      refine ldone ?_
      unfold laws_markStringS_l2
      simp only [List.append_nil]
      rw [sel_no (by omega)]
      simp [markT]
    | cons p r ih =>
      intro a j hj1 hj2 hl
      simp only [List.length_cons] at hj2 hl ⊢
      have hcl : ∀ x : ByteArray, (a ++ x :: r).length = a.length + (r.length + 1) := fun x => by simp
      refine lgo (y := (j + 1, ((a ++ [mT j]).length : Int), (a ++ [mT j]) ++ r)) ?_ ?_
      · unfold laws_markStringS_l2
        simp only [Int.toNat_natCast, set_mid, hcl]
        rw [sel_yes (by omega), laws_markText_eq _ hj1 (by omega), bnd_s, req_p (by omega), req_p (by omega), wk (e := j + 1) (by omega) (by omega), wk (by omega) (by omega)]
        simp
      · rw [ih _ (j + 1) (by omega) (by omega) (by simp; omega)]
        simp only [markT, List.append_assoc, List.singleton_append]
        congr 2
        omega
  have := key l [] k h0 (by omega) (by simp; omega)
  simp only [List.length_nil, List.nil_append] at this
  exact bnd_e this
theorem laws_heldStringS_eq (l : List ByteArray) (k : Int) (h0 : 0 < k) (h1 : k ≤ 1000000000) (hl : l.length ≤ 100000000) : laws_heldStringS (markT k l) k = some (k + l.length) := by
  unfold laws_heldStringS
  have key : ∀ (r a : List ByteArray) (j : Int), 0 < j → j + r.length ≤ 2000000000 → a.length + r.length ≤ 100000000 → loop (laws_heldStringS_l2 (a ++ markT j r)) (j, (a.length : Int)) = some (.out (j + r.length)) := by
    intro r
    induction r with
    | nil =>
      intro a j hj1 hj2 hl
      refine ldone ?_
      unfold laws_heldStringS_l2
      simp only [markT, List.append_nil]
      rw [sel_no (by omega)]
      simp
    | cons p r ih =>
      intro a j hj1 hj2 hl
      simp only [List.length_cons] at hj2 hl ⊢
      have hcl : ∀ (x : ByteArray) (r : List ByteArray), (a ++ x :: r).length = a.length + (r.length + 1) := fun x r => by simp
      refine lgo (y := (j + 1, ((a ++ [mT j]).length : Int))) ?_ ?_
      · unfold laws_heldStringS_l2
        simp only [markT, Int.toNat_natCast, getD_mid, hcl, markT_len]
        rw [sel_yes (by omega), req_p (by omega), laws_markText_eq _ hj1 (by omega), bnd_s, sel_neg (by simp), wk (e := j + 1) (by omega) (by omega), wk (by omega) (by omega)]
        simp
      · have := ih (a ++ [mT j]) (j + 1) (by omega) (by omega) (by simp; omega)
        simp only [markT]
        rw [List.append_assoc, List.singleton_append] at this
        rw [this]
        congr 2
        omega
  have := key l [] k h0 (by omega) (by simp; omega)
  simp only [List.length_nil, List.nil_append] at this
  exact bnd_e this
theorem beq_dec (a b : Int) : (a == b) = decide (a = b) := by rw [Bool.eq_iff_iff]; simp
def rd (x : List Int) (i : Int) : Int := x.getD i.toNat 0
theorem rd_def (x : List Int) (i : Int) : x.getD i.toNat 0 = rd x i := rfl
theorem rd_nums (s : ByteArray) (i : Int) : rd (numsOf s) i = btOf s i := by
  unfold rd numsOf btOf
  by_cases h : i.toNat < s.size
  · rw [dif_pos h, List.getD_eq_getElem?_getD, List.getElem?_map, Array.getElem?_toList, Array.getElem?_eq_getElem h]
    rfl
  · rw [dif_neg h, List.getD_eq_getElem?_getD, List.getElem?_eq_none (by rw [List.length_map, Array.length_toList]; exact Nat.le_of_not_lt h)]
    rfl
def tz (x : List Int) : Nat := (x.reverse.takeWhile (· == 0)).length
theorem tz_zero (x : List Int) : tz (x ++ [0]) = tz x + 1 := by simp [tz, List.takeWhile_cons]
theorem tz_ne (x : List Int) (b : Int) (h : b ≠ 0) : tz (x ++ [b]) = 0 := by simp [tz, List.takeWhile_cons, h]
theorem tz_le (x : List Int) : tz x ≤ x.length := by
  have := List.Sublist.length_le (List.takeWhile_sublist (fun a : Int => a == 0) (l := x.reverse))
  simpa [tz] using this
theorem rd_app2 (x : List Int) (b c : Int) : rd (x ++ [b, c]) ((x.length : Int) + 1) = c ∧ rd (x ++ [b, c]) (x.length : Int) = b := by
  constructor
  · simp [rd, List.getD_eq_getElem?_getD, show ((x.length : Int) + 1).toNat = x.length + 1 from by omega]
  · simp [rd, List.getD_eq_getElem?_getD]
theorem tz_two (x : List Int) : 2 ≤ tz x ↔ (2 ≤ x.length ∧ rd x ((x.length : Int) - 1) = 0 ∧ rd x ((x.length : Int) - 2) = 0) := by
  rcases List.eq_nil_or_concat x with rfl | ⟨y, c, rfl⟩
  · simp [tz]
  · rcases List.eq_nil_or_concat y with rfl | ⟨z, b, rfl⟩
    · constructor
      · intro h; have := tz_le ([].concat c); simp at this h; omega
      · intro h; simp at h
    · simp only [List.concat_eq_append, List.append_assoc, List.singleton_append]
      have e1 := (rd_app2 z b c).1
      have e2 := (rd_app2 z b c).2
      rw [show (((z ++ [b, c]).length : Nat) : Int) - 1 = (z.length : Int) + 1 by simp; omega, show (((z ++ [b, c]).length : Nat) : Int) - 2 = (z.length : Int) by simp, e1, e2]
      by_cases hc : c = 0
      · by_cases hb : b = 0
        · subst hc; subst hb
          rw [show z ++ [(0 : Int), 0] = (z ++ [0]) ++ [0] by simp, tz_zero, tz_zero]
          simp
        · subst hc
          rw [show z ++ [b, (0 : Int)] = (z ++ [b]) ++ [0] by simp, tz_zero, tz_ne _ _ hb]
          simp [hb]
      · rw [show z ++ [b, c] = (z ++ [b]) ++ [c] by simp, tz_ne _ _ hc]
        simp [hc]
def byteN (x : Int) : Prop := 0 ≤ x ∧ x ≤ 255
theorem numsOf_byte (s : ByteArray) : ∀ x ∈ numsOf s, byteN x := by
  intro x hx
  simp only [numsOf, List.mem_map] at hx
  obtain ⟨b, _, rfl⟩ := hx
  have := b.toNat_lt
  unfold byteN
  omega
theorem nums_strN (x : List Int) (h : ∀ c ∈ x, byteN c) : numsOf (strOfNums x) = x := nums_str x h
theorem str_numsOf (s : ByteArray) : strOfNums (numsOf s) = s := by
  apply ByteArray.ext
  apply Array.ext'
  simp only [strOfNums, numsOf, List.map_map]
  conv => rhs; rw [← List.map_id s.data.toList]
  refine List.map_congr_left fun c _ => ?_
  simp
theorem toList_inj {a b : ByteArray} : a.toList = b.toList ↔ a = b := by
  constructor
  · intro h
    rw [ByteArray.toList_eq, ByteArray.toList_eq] at h
    exact ByteArray.ext (Array.ext' h)
  · intro h; rw [h]
theorem numsOf_extract (s : ByteArray) (i j : Nat) : numsOf (s.extract i j) = ((numsOf s).take j).drop i := by
  simp [numsOf, ByteArray.data_extract, List.map_drop, List.map_take, List.drop_take]
theorem numsOf_inj {a b : ByteArray} (h : numsOf a = numsOf b) : a = b := by rw [← str_numsOf a, h, str_numsOf]
def escStep (x : List Int) (b : Int) : List Int := (if b < 4 ∧ 2 ≤ tz x then x ++ [3] else x) ++ [b]
def escL (x : List Int) (t : List Int) : List Int := t.foldl escStep x
theorem escL_nil (x : List Int) : escL x [] = x := rfl
theorem escL_cons (x : List Int) (b : Int) (t : List Int) : escL x (b :: t) = escL (escStep x b) t := rfl
theorem rd_drop0 (a : List Int) (i : Nat) (h : i < a.length) : a.drop i = rd a i :: a.drop (i + 1) := by
  rw [List.drop_eq_getElem_cons h]; simp [rd, List.getD_eq_getElem?_getD, List.getElem?_eq_getElem h]
theorem escL_byte (t : List Int) : ∀ x, (∀ c ∈ x, byteN c) → (∀ c ∈ t, byteN c) → ∀ c ∈ escL x t, byteN c := by
  induction t with
  | nil => intro x hx _; exact hx
  | cons b t ih =>
    intro x hx ht
    rw [escL_cons]
    refine ih _ ?_ (fun c hc => ht c (List.mem_cons_of_mem _ hc))
    intro c hc
    unfold escStep at hc
    rw [List.mem_append] at hc
    rcases hc with hc | hc
    · split at hc
      · rw [List.mem_append] at hc
        rcases hc with hc | hc
        · exact hx c hc
        · rw [List.mem_singleton] at hc; subst hc; unfold byteN; omega
      · exact hx c hc
    · rw [List.mem_singleton] at hc; subst hc; exact ht _ (List.mem_cons_self)
theorem escL_len (t : List Int) : ∀ x, (escL x t).length ≤ x.length + 2 * t.length := by
  induction t with
  | nil => intro x; rw [escL_nil]; simp
  | cons b t ih =>
    intro x
    rw [escL_cons]
    have := ih (escStep x b)
    have h2 : (escStep x b).length ≤ x.length + 2 := by unfold escStep; split <;> simp
    rw [List.length_cons]; omega
def escV (a : ByteArray) : ByteArray × Bool := if 1 ≤ a.size ∧ a.size ≤ 60000 ∧ btOf a ((a.size : Int) - 1) ≠ 0 then (strOfNums (escL [] (numsOf a)), true) else ((⟨#[]⟩ : ByteArray), false)
theorem escV_size (a : ByteArray) : (escV a).1.size ≤ 120000 := by
  unfold escV
  split
  · rename_i h
    have := escL_len (numsOf a) []
    rw [numsOf_length, List.length_nil] at this
    simp only [strOfNums_size]
    omega
  · exact Nat.zero_le _
theorem escV_bytes (u : ByteArray) (h : (escV u).2 = true) : numsOf (escV u).1 = escL [] (numsOf u) ∧ 1 ≤ u.size ∧ u.size ≤ 60000 ∧ btOf u ((u.size : Int) - 1) ≠ 0 := by
  unfold escV at h ⊢
  split at h
  · rename_i hc
    rw [if_pos hc]
    refine ⟨?_, hc⟩
    simp only []
    exact nums_strN _ (escL_byte _ _ (by simp) (numsOf_byte u))
  · simp at h
def unL : List Int → List Int → List Int
  | _, [] => []
  | x, c :: t => (if c = 3 ∧ 2 ≤ tz x then [] else [c]) ++ unL (x ++ [c]) t
theorem unL_length : ∀ (t x : List Int), (unL x t).length ≤ t.length
  | [], x => by simp [unL]
  | c :: t, x => by
    rw [unL, List.length_append, List.length_cons]
    have := unL_length t (x ++ [c])
    split <;> simp <;> omega
theorem un_esc (t : List Int) : ∀ x, ∃ e, escL x t = x ++ e ∧ unL x e = t := by
  induction t with
  | nil => intro x; exact ⟨[], by simp [escL_nil], rfl⟩
  | cons b t ih =>
    intro x
    obtain ⟨e, h1, h2⟩ := ih (escStep x b)
    rw [escL_cons, h1]
    by_cases hc : b < 4 ∧ 2 ≤ tz x
    · refine ⟨3 :: b :: e, ?_, ?_⟩
      · simp [escStep, if_pos hc]
      · rw [unL, if_pos ⟨rfl, hc.2⟩, List.nil_append, unL, if_neg (fun h => by rw [tz_ne x 3 (by decide)] at h; omega)]
        simp only [escStep, if_pos hc] at h2
        rw [h2]; rfl
    · refine ⟨b :: e, ?_, ?_⟩
      · simp [escStep, if_neg hc]
      · rw [unL, if_neg (fun h => hc ⟨by omega, h.2⟩)]
        simp only [escStep, if_neg hc] at h2
        rw [h2]; rfl
def unV (a : ByteArray) : ByteArray × Bool := if escV (strOfNums (unL [] (numsOf a))) = (a, true) then (strOfNums (unL [] (numsOf a)), true) else ((⟨#[]⟩ : ByteArray), false)
theorem unV_esc (u : ByteArray) (h : (escV u).2 = true) : unV (escV u).1 = (u, true) := by
  have hb := (escV_bytes u h).1
  obtain ⟨e, h1, h2⟩ := un_esc (numsOf u) []
  rw [h1, List.nil_append] at hb
  unfold unV
  rw [hb, h2, str_numsOf, if_pos (by rw [← h])]
theorem take_succ_rd (a : List Int) (i : Nat) (h : i < a.length) : a.take (i + 1) = a.take i ++ [rd a i] := by
  rw [List.take_succ_eq_append_getElem h]; simp [rd, List.getD_eq_getElem?_getD, List.getElem?_eq_getElem h]
theorem rd_take (a : List Int) (i : Int) (j : Nat) (h : i.toNat < j) : rd (a.take j) i = rd a i := by
  simp [rd, List.getD_eq_getElem?_getD, List.getElem?_take, h]
theorem unL_step (a : ByteArray) (i : Nat) (h : i < a.size) : unL ((numsOf a).take i) ((numsOf a).drop i) = (if btOf a i = 3 ∧ 2 ≤ tz ((numsOf a).take i) then [] else [btOf a i]) ++ unL ((numsOf a).take (i + 1)) ((numsOf a).drop (i + 1)) := by
  rw [rd_drop0 _ _ (by rw [numsOf_length]; exact h), unL, rd_nums, take_succ_rd _ _ (by rw [numsOf_length]; exact h), rd_nums]
def noHit (x : List Int) : Prop := ∀ i : Nat, i + 2 < x.length → rd x i = 0 → rd x ((i : Int) + 1) = 0 → rd x ((i : Int) + 2) ≠ 1
theorem rd_app_lt (x y : List Int) (i : Int) (h : i.toNat < x.length) : rd (x ++ y) i = rd x i := by
  simp [rd, List.getD_eq_getElem?_getD, List.getElem?_append_left h]
theorem rd_app_ge (x y : List Int) (i : Int) (h : x.length ≤ i.toNat) : rd (x ++ y) i = rd y ((i.toNat - x.length : Nat) : Int) := by
  simp [rd, List.getD_eq_getElem?_getD, List.getElem?_append_right h]
theorem rd_over (x : List Int) (i : Int) (h : x.length ≤ i.toNat) : rd x i = 0 := by
  simp [rd, List.getD_eq_getElem?_getD, List.getElem?_eq_none h]
theorem noHit_app (x : List Int) (c : Int) (h : noHit x) (hc : 2 ≤ tz x → c ≠ 1) : noHit (x ++ [c]) := by
  intro i hi h0 h1
  rw [List.length_append, List.length_singleton] at hi
  rw [rd_app_lt _ _ _ (by omega)] at h0 h1
  by_cases he : i + 2 < x.length
  · rw [rd_app_lt _ _ _ (by omega)]; exact h i he h0 h1
  · rw [rd_app_ge _ _ _ (by omega), show ((i : Int) + 2).toNat - x.length = 0 by omega]
    refine hc ((tz_two x).2 ⟨by omega, ?_, ?_⟩)
    · rw [show (x.length : Int) - 1 = (i : Int) + 1 by omega]; exact h1
    · rw [show (x.length : Int) - 2 = (i : Int) by omega]; exact h0
theorem noHit_esc (t : List Int) : ∀ x, noHit x → noHit (escL x t) := by
  induction t with
  | nil => intro x h; exact h
  | cons b t ih =>
    intro x h
    rw [escL_cons]
    refine ih _ ?_
    unfold escStep
    split
    · rename_i hc
      exact noHit_app _ _ (noHit_app _ _ h (fun _ => by decide)) (fun h2 => by rw [tz_ne x 3 (by decide)] at h2; omega)
    · rename_i hc
      exact noHit_app _ _ h (fun h2 hb => hc ⟨by omega, h2⟩)
theorem esc_last (t : List Int) (x : List Int) (h : 1 ≤ t.length) : 1 ≤ (escL x t).length ∧ rd (escL x t) (((escL x t).length : Int) - 1) = rd t ((t.length : Int) - 1) := by
  rcases List.eq_nil_or_concat t with rfl | ⟨y, c, rfl⟩
  · simp at h
  · rw [List.concat_eq_append, escL, List.foldl_append]
    simp only [List.foldl_cons, List.foldl_nil]
    unfold escStep
    generalize (if c < 4 ∧ 2 ≤ tz (List.foldl escStep x y) then List.foldl escStep x y ++ [3] else List.foldl escStep x y) = z
    refine ⟨by simp, ?_⟩
    rw [rd_app_ge _ _ _ (by simp), rd_app_ge _ _ _ (by simp)]
    congr 1
    simp
theorem escV_body (u : ByteArray) (h : (escV u).2 = true) : 1 ≤ (escV u).1.size ∧ noHit (numsOf (escV u).1) ∧ rd (numsOf (escV u).1) (((escV u).1.size : Int) - 1) ≠ 0 := by
  obtain ⟨hb, h1, h2, h3⟩ := escV_bytes u h
  have hl := numsOf_length (escV u).1
  have hlu := numsOf_length u
  rw [← hl, hb]
  obtain ⟨e1, e2⟩ := esc_last (numsOf u) [] (by omega)
  refine ⟨e1, noHit_esc _ _ (fun i hi => by simp at hi), ?_⟩
  rw [e2, hlu, rd_nums]
  exact h3
def frmL : List ByteArray → List Int → ByteArray × Bool
  | [], x => (strOfNums x, true)
  | u :: us, x => if (escV u).2 = true then (if x.length + 3 + (escV u).1.size > 60000 then ((⟨#[]⟩ : ByteArray), false) else frmL us ((x ++ [0, 0, 1]) ++ numsOf (escV u).1)) else ((⟨#[]⟩ : ByteArray), false)
def frmV (l : List ByteArray) : ByteArray × Bool := if l.length > 400 then ((⟨#[]⟩ : ByteArray), false) else frmL l []
theorem frm_size : ∀ (l : List ByteArray) (x : List Int), x.length ≤ 60000 → (frmL l x).1.size ≤ 60000
  | [], x, h => by simpa [frmL, strOfNums_size] using h
  | u :: us, x, h => by
    rw [frmL]
    split
    · split
      · simp [ByteArray.size]
      · rename_i h2
        refine frm_size us _ ?_
        rw [List.length_append, numsOf_length, List.length_append]; simp; omega
    · simp [ByteArray.size]
theorem frmV_size (l : List ByteArray) : (frmV l).1.size ≤ 60000 := by
  unfold frmV
  split
  · simp [ByteArray.size]
  · exact frm_size _ _ (by simp)
def frB : List ByteArray → List Int
  | [] => []
  | u :: us => [0, 0, 1] ++ (numsOf (escV u).1 ++ frB us)
theorem frm_true : ∀ (l : List ByteArray) (x : List Int), (frmL l x).2 = true → (frmL l x).1 = strOfNums (x ++ frB l) ∧ ∀ u ∈ l, (escV u).2 = true
  | [], x, _ => by simp [frmL, frB]
  | u :: us, x, h => by
    rw [frmL] at h ⊢
    split at h
    · rename_i h1
      rw [if_pos h1]
      split at h
      · simp at h
      · rename_i h2
        rw [if_neg h2]
        obtain ⟨e1, e2⟩ := frm_true us _ h
        refine ⟨by rw [e1, frB]; simp, ?_⟩
        intro v hv
        rcases List.mem_cons.1 hv with rfl | hv
        · exact h1
        · exact e2 v hv
    · simp at h
theorem frB_byte : ∀ l : List ByteArray, ∀ c ∈ frB l, byteN c
  | [] => by simp [frB]
  | u :: us => by
    intro c hc
    rw [frB, List.mem_append, List.mem_append] at hc
    rcases hc with hc | hc | hc
    · simp at hc; unfold byteN; omega
    · exact numsOf_byte _ c hc
    · exact frB_byte us c hc
theorem frmV_true (l : List ByteArray) (s : ByteArray) (h : frmV l = (s, true)) : numsOf s = frB l ∧ (∀ u ∈ l, (escV u).2 = true) ∧ l.length ≤ 400 ∧ s.size ≤ 60000 := by
  have hz := frmV_size l
  rw [h] at hz
  unfold frmV at h
  split at h
  · simp at h
  · obtain ⟨e1, e2⟩ := frm_true l [] (by rw [h])
    rw [h] at e1
    simp only [List.nil_append] at e1
    exact ⟨by rw [e1]; exact nums_strN _ (frB_byte l), e2, by omega, hz⟩
def hit3 (L : List Int) : Prop := rd L 0 = 0 ∧ rd L 1 = 0 ∧ rd L 2 = 1
instance (L : List Int) : Decidable (hit3 L) := by unfold hit3; infer_instance
def scan3 (p : Int) : List Int → List Int
  | [] => []
  | c :: r => if hit3 (c :: r) then p :: scan3 (p + 1) r else scan3 (p + 1) r
theorem hit_form (L : List Int) (h : hit3 L) : ∃ r, L = 0 :: 0 :: 1 :: r := by
  obtain ⟨h0, h1, h2⟩ := h
  match L, h0, h1, h2 with
  | [], _, _, h2 => simp [rd] at h2
  | [_], _, _, h2 => simp [rd] at h2
  | [_, _], _, _, h2 => simp [rd] at h2
  | a :: b :: c :: r, h0, h1, h2 => simp [rd] at h0 h1 h2; exact ⟨r, by rw [h0, h1, h2]⟩
theorem hit_mk (r : List Int) : hit3 (0 :: 0 :: 1 :: r) := by simp [hit3, rd]
theorem scan_hit (p : Int) (r : List Int) : scan3 p (0 :: 0 :: 1 :: r) = p :: scan3 (p + 3) r := by
  rw [scan3, if_pos (hit_mk r), scan3, if_neg (by simp [hit3, rd]), scan3, if_neg (by simp [hit3, rd]), show p + 1 + 1 + 1 = p + 3 by omega]
theorem scan_short (p : Int) (L : List Int) (h : L.length ≤ 2) : scan3 p L = [] := by
  match L, h with
  | [], _ => rfl
  | [_], _ => rw [scan3, if_neg (by simp [hit3, rd]), scan3]
  | [_, _], _ => rw [scan3, if_neg (by simp [hit3, rd]), scan3, if_neg (by simp [hit3, rd]), scan3]
  | _ :: _ :: _ :: _, h => simp at h
def chain3 (n : Int) : Int → List Int → Prop
  | p, [] => p ≤ n
  | p, q :: t => p ≤ q ∧ chain3 n (q + 3) t
theorem ch_mono (n : Int) (p q : Int) (h : p ≤ q) : ∀ t, chain3 n q t → chain3 n p t
  | [], h1 => Int.le_trans h h1
  | r :: t, h1 => ⟨Int.le_trans h h1.1, h1.2⟩
theorem scan_ch : ∀ (m : Nat) (L : List Int) (p : Int), L.length ≤ m → chain3 (p + L.length) p (scan3 p L)
  | m, [], p, _ => by simp [scan3, chain3]
  | 0, c :: r, p, h => by simp at h
  | m + 1, c :: r, p, h => by
    by_cases hh : hit3 (c :: r)
    · obtain ⟨r', e⟩ := hit_form _ hh
      rw [e, scan_hit]
      refine ⟨Int.le_refl _, ?_⟩
      rw [e] at h
      have := scan_ch m r' (p + 3) (by simp at h; omega)
      rw [show p + ((0 :: 0 :: 1 :: r' : List Int).length : Int) = p + 3 + (r'.length : Int) by simp; omega]
      exact this
    · rw [scan3, if_neg hh]
      have := scan_ch m r (p + 1) (by simp at h; omega)
      rw [show p + ((c :: r).length : Int) = p + 1 + (r.length : Int) by simp; omega]
      exact ch_mono _ _ _ (by omega) _ this
theorem scan_skip : ∀ (E R : List Int) (p : Int), (∀ i, i < E.length → ¬ hit3 ((E ++ R).drop i)) → scan3 p (E ++ R) = scan3 (p + E.length) R
  | [], R, p, _ => by simp
  | c :: E, R, p, h => by
    have h0 := h 0 (by simp)
    rw [List.drop_zero, List.cons_append] at h0
    rw [List.cons_append, scan3, if_neg h0, scan_skip E R (p + 1) (fun i hi => by
      have := h (i + 1) (by simp; omega)
      rwa [List.cons_append, List.drop_succ_cons] at this)]
    rw [show p + 1 + (E.length : Int) = p + ((c :: E).length : Int) by simp; omega]
theorem rd_dropi (L : List Int) (i : Nat) (j : Int) (hj : 0 ≤ j) : rd (L.drop i) j = rd L ((i : Int) + j) := by
  simp [rd, List.getD_eq_getElem?_getD, show ((i : Int) + j).toNat = i + j.toNat by omega]
theorem esc_noHit (u : ByteArray) (h : (escV u).2 = true) (R : List Int) (i : Nat) (hi : i < (numsOf (escV u).1).length) : ¬ hit3 ((numsOf (escV u).1 ++ R).drop i) := by
  obtain ⟨h1, h2, h3⟩ := escV_body u h
  have hl := numsOf_length (escV u).1
  intro hh
  unfold hit3 at hh
  rw [rd_dropi _ _ _ (by omega), rd_dropi _ _ _ (by omega), rd_dropi _ _ _ (by omega)] at hh
  obtain ⟨a0, a1, a2⟩ := hh
  rw [rd_app_lt _ _ _ (by omega)] at a0
  rw [Int.add_zero] at a0
  by_cases e1 : i + 1 = (escV u).1.size
  · rw [show (i : Int) = ((escV u).1.size : Int) - 1 by omega] at a0; exact h3 a0
  · rw [rd_app_lt _ _ _ (by omega)] at a1
    by_cases e2 : i + 2 = (escV u).1.size
    · rw [show (i : Int) + 1 = ((escV u).1.size : Int) - 1 by omega] at a1; exact h3 a1
    · rw [rd_app_lt _ _ _ (by omega)] at a2
      exact h2 i (by omega) a0 a1 a2
def posL : Int → List ByteArray → List Int
  | _, [] => []
  | p, u :: us => p :: posL (p + 3 + ((escV u).1.size : Int)) us
theorem scan_frB : ∀ (l : List ByteArray) (p : Int), (∀ u ∈ l, (escV u).2 = true) → scan3 p (frB l) = posL p l
  | [], p, _ => rfl
  | u :: us, p, h => by
    rw [frB, posL]
    show scan3 p (0 :: 0 :: 1 :: (numsOf (escV u).1 ++ frB us)) = _
    rw [scan_hit, scan_skip _ _ _ (esc_noHit u (h u (List.mem_cons_self)) _), scan_frB us _ (fun v hv => h v (List.mem_cons_of_mem _ hv)), numsOf_length]
theorem hit_at (s : ByteArray) (i : Nat) (h : i + 3 ≤ s.size) : (s.extract i (i + 3)).toList = ([0, 0, 1] : List UInt8) ↔ hit3 ((numsOf s).drop i) := by
  have hl := numsOf_length s
  have e : (s.extract i (i + 3)).toList = ([0, 0, 1] : List UInt8) ↔ numsOf (s.extract i (i + 3)) = [0, 0, 1] := by
    rw [ByteArray.toList_eq]
    constructor
    · intro h; unfold numsOf; rw [h]; rfl
    · intro h
      have : s.extract i (i + 3) = strOfNums [0, 0, 1] := by rw [← str_numsOf (s.extract i (i + 3)), h]
      rw [this]; rfl
  rw [e, numsOf_extract]
  have h3 : ((numsOf s).take (i + 3)).drop i = [rd (numsOf s) i, rd (numsOf s) ((i + 1 : Nat) : Int), rd (numsOf s) ((i + 2 : Nat) : Int)] := by
    rw [show i + 3 = i + 2 + 1 by rfl, take_succ_rd _ _ (by omega), take_succ_rd _ _ (by omega), take_succ_rd _ _ (by omega), List.append_assoc, List.append_assoc, List.drop_append_of_le_length (by rw [List.length_take]; omega), List.drop_eq_nil_of_le (by rw [List.length_take]; omega)]
    rfl
  rw [h3]
  unfold hit3
  rw [rd_dropi _ _ _ (by omega), rd_dropi _ _ _ (by omega), rd_dropi _ _ _ (by omega), Int.add_zero, show ((i + 1 : Nat) : Int) = (i : Int) + 1 by omega, show ((i + 2 : Nat) : Int) = (i : Int) + 2 by omega]
  simp
noncomputable def uV (s : ByteArray) : List ByteArray × Bool := @dite _ (∃ l, frmV l = (s, true)) (Classical.propDecidable _) (fun h => (Classical.choose h, true)) (fun _ => ([], false))
def endV (x : List ByteArray) (s : ByteArray) : List ByteArray × Bool := if (frmV x).2 = true then (if (frmV x).1.toList = s.toList then (x, true) else ([], false)) else ([], false)
theorem endV_or (x : List ByteArray) (s : ByteArray) : endV x s = ([], false) ∨ (endV x s).2 = true ∧ frmV (endV x s).1 = (s, true) := by
  unfold endV
  split
  · rename_i h
    split
    · rename_i h2
      exact Or.inr ⟨rfl, Prod.ext (toList_inj.1 h2) h⟩
    · exact Or.inl rfl
  · exact Or.inl rfl
theorem endV_true (x : List ByteArray) (s : ByteArray) (h : frmV x = (s, true)) : endV x s = (x, true) := by
  unfold endV
  rw [h]; simp
theorem uV_or (s : ByteArray) : (∃ l, frmV l = (s, true) ∧ uV s = (l, true)) ∨ (¬ (∃ l, frmV l = (s, true)) ∧ uV s = ([], false)) := by
  by_cases h : ∃ l, frmV l = (s, true)
  · exact Or.inl ⟨Classical.choose h, Classical.choose_spec h, by unfold uV; rw [dif_pos h]⟩
  · exact Or.inr ⟨h, by unfold uV; rw [dif_neg h]⟩
theorem uV_size (s : ByteArray) (h : 1 ≤ s.size) (h2 : (uV s).2 = true) : (uV s).1 ≠ [] := by
  rcases uV_or s with ⟨l, h1, e⟩ | ⟨_, e⟩
  · rw [e]
    intro hl
    simp only [] at hl
    rw [hl] at h1
    have := congrArg (fun p => p.1.size) h1
    simp [frmV, frmL, strOfNums_size] at this
    omega
  · rw [e] at h2; simp at h2
theorem uV_length (s : ByteArray) : (uV s).1.length ≤ 400 := by
  rcases uV_or s with ⟨l, h1, e⟩ | ⟨hn, e⟩
  · rw [e]; exact (frmV_true l s h1).2.2.1
  · rw [e]; simp
theorem unV_size (a : ByteArray) (hs : a.size ≤ 60000) : (unV a).1.size ≤ 60000 := by
  unfold unV
  have := unL_length (numsOf a) []
  rw [numsOf_length] at this
  split
  · rw [strOfNums_size]; omega
  · simp [ByteArray.size]
theorem chunk_esc (s : ByteArray) (u : ByteArray) (R : List Int) (p : Nat) (h : (numsOf s).drop p = [0, 0, 1] ++ (numsOf (escV u).1 ++ R)) : s.extract (p + 3) (p + 3 + (escV u).1.size) = (escV u).1 ∧ (numsOf s).drop (p + 3 + (escV u).1.size) = R ∧ p + 3 + (escV u).1.size + R.length = s.size := by
  have h3 : (numsOf s).drop (p + 3) = numsOf (escV u).1 ++ R := by rw [← List.drop_drop, h]; rfl
  have hl := numsOf_length (escV u).1
  refine ⟨?_, ?_, ?_⟩
  · apply numsOf_inj
    rw [numsOf_extract, List.drop_take, h3, show p + 3 + (escV u).1.size - (p + 3) = (numsOf (escV u).1).length by omega, List.take_left']
    rfl
  · rw [← List.drop_drop, h3, ← hl, List.drop_left']
    rfl
  · have e := congrArg List.length h
    rw [List.length_drop, numsOf_length] at e
    simp only [List.length_append, List.length_cons, List.length_nil, hl] at e
    omega
theorem escL_at (a : ByteArray) (x : List Int) (i : Nat) (h : i < a.size) : escL x ((numsOf a).drop i) = escL (escStep x (btOf a i)) ((numsOf a).drop (i + 1)) := by
  rw [rd_drop0 _ i (by rw [numsOf_length]; exact h), escL_cons, rd_nums]
theorem esc_end (a : ByteArray) (x : List Int) : escL x ((numsOf a).drop a.size) = x := by
  rw [List.drop_eq_nil_of_le (by rw [numsOf_length]; omega), escL_nil]
theorem escStep_len (x : List Int) (b : Int) : (escStep x b).length ≤ x.length + 2 := by unfold escStep; split <;> simp
theorem spec_l04Escaped_eq (a : ByteArray) (h : a.size ≤ 60000) : spec_l04Escaped a = some (strOfNums (escL [] (numsOf a))) := by
  have hm : maxLen = 9223372036854775807 := rfl
  unfold spec_l04Escaped
  have key : ∀ i : Nat, i ≤ a.size → ∀ x : List Int, x.length ≤ 2 * i → loop (spec_l04Escaped_l2 a) ((i : Int), x) = some (escL x ((numsOf a).drop i)) := by
    refine down_to _ ?_ ?_
    · intro x _
      rw [esc_end]
      exact ldone (by unfold spec_l04Escaped_l2; rw [sel_no (by simp)])
    · intro i hi ih x hx
      rw [escL_at a x i hi]
      have hl := escStep_len x (btOf a i)
      refine lgo (y := (((i + 1 : Nat) : Int), escStep x (btOf a i))) ?_ (ih _ (by omega))
      have ht := tz_two x
      have hc : (sel (decide ((x.length : Int) ≥ 2)) (
          req (0 ≤ (wrapK .i64 ((x.length : Int) - 1)) ∧ (wrapK .i64 ((x.length : Int) - 1)) < x.length) <|
          req ((wrapK .i64 ((x.length : Int) - 1)).toNat < x.length) <|
          sel ((x.getD ((wrapK .i64 ((x.length : Int) - 1)).toNat) 0) == 0) (
          req (0 ≤ (wrapK .i64 ((x.length : Int) - 2)) ∧ (wrapK .i64 ((x.length : Int) - 2)) < x.length) <|
          req ((wrapK .i64 ((x.length : Int) - 2)).toNat < x.length) <|
          sel ((x.getD ((wrapK .i64 ((x.length : Int) - 2)).toNat) 0) == 0) (
          req (0 ≤ (i : Int) ∧ (i : Int) < a.size) <|
          some (decide ((btOf a i) < 4))) (
          some false)) (
          some false)) (
          some false)) = some (decide (btOf a i < 4 ∧ 2 ≤ tz x)) := by
        rw [wk (e := (x.length : Int) - 1) (by omega) (by omega), wk (e := (x.length : Int) - 2) (by omega) (by omega)]
        by_cases h2 : (x.length : Int) ≥ 2
        · rw [sel_yes h2, req_p (by omega), req_p (by omega), req_p (by omega), req_p (by omega), req_p (by omega), rd_def, rd_def]
          by_cases h3 : rd x ((x.length : Int) - 1) = 0
          · rw [sel_pos (by simpa using h3)]
            by_cases h4 : rd x ((x.length : Int) - 2) = 0
            · rw [sel_pos (by simpa using h4)]
              have : 2 ≤ tz x := ht.2 ⟨by omega, h3, h4⟩
              congr 1; rw [decide_eq_decide]; omega
            · rw [sel_neg (by simpa using h4), decide_eq_false (fun h => h4 (ht.1 h.2).2.2)]
          · rw [sel_neg (by simpa using h3), decide_eq_false (fun h => h3 (ht.1 h.2).2.1)]
        · rw [sel_no h2, decide_eq_false (fun h => by have := (ht.1 h.2).1; omega)]
      unfold spec_l04Escaped_l2
      simp only
      rw [sel_yes (by omega), hc, bnd_s]
      unfold escStep
      by_cases hp : btOf a i < 4 ∧ 2 ≤ tz x
      · rw [sel_yes hp, if_pos hp, req_p (by simp only [List.length_singleton]; omega), bnd_s, req_p (by omega), req_p (by simp only [List.length_append, List.length_singleton]; omega), wk (by omega) (by omega)]
        rfl
      · rw [sel_no hp, if_neg hp, bnd_s, req_p (by omega), req_p (by simp only [List.length_singleton]; omega), wk (by omega) (by omega)]
        rfl
  exact (bnd_e (key 0 (by omega) [] (by simp))).trans rfl
theorem spec_Escaped_eq (a : ByteArray) (hs : a.size ≤ 9223372036854775807) : spec_Escaped a = some (escV a) := by
  unfold spec_Escaped escV
  by_cases h : (a.size : Int) = 0
  · rw [sel_pos (by simpa using h), bnd_s, sel_t, if_neg (by omega)]
  · rw [sel_neg (by simpa using h)]
    by_cases h1 : (a.size : Int) > 60000
    · rw [sel_yes h1, bnd_s, sel_t, if_neg (by omega)]
    · rw [sel_no h1, wk (by omega) (by omega), req_p (by omega), bnd_s, spec_l04Escaped_eq a (by omega), bnd_s]
      by_cases h2 : btOf a ((a.size : Int) - 1) = 0
      · rw [sel_pos (by simpa using h2), if_neg (fun hh => hh.2.2 h2)]
      · rw [sel_neg (by simpa using h2), if_pos ⟨by omega, by omega, h2⟩]
theorem impl_Escaped_loop (a : ByteArray) (h : a.size ≤ 60000) : loop (impl_Escaped_l2 a) (0, 0, []) = some (escL [] (numsOf a)) := by
  have hm : maxLen = 9223372036854775807 := rfl
  have key : ∀ i : Nat, i ≤ a.size → ∀ x : List Int, x.length ≤ 2 * i → loop (impl_Escaped_l2 a) ((tz x : Int), (i : Int), x) = some (escL x ((numsOf a).drop i)) := by
    refine down_to _ ?_ ?_
    · intro x _
      rw [esc_end]
      exact ldone (by unfold impl_Escaped_l2; rw [sel_no (by simp)])
    · intro i hi ih x hx
      rw [escL_at a x i hi]
      have hl := escStep_len x (btOf a i)
      refine lgo (y := ((tz (escStep x (btOf a i)) : Int), ((i + 1 : Nat) : Int), escStep x (btOf a i))) ?_ (ih _ (by omega))
      have hz := tz_le x
      have hc : (req (0 ≤ (i : Int) ∧ (i : Int) < a.size) <| sel (decide ((btOf a i) < 4)) (some (decide ((tz x : Int) ≥ 2))) (some false)) = some (decide (btOf a i < 4 ∧ 2 ≤ tz x)) := by
        rw [req_p (by omega), sel_and]
        congr 1
        rw [Bool.eq_iff_iff]
        simp only [Bool.and_eq_true, decide_eq_true_eq]
        omega
      have last : ∀ (y : List Int) (z : Int), z = (tz y : Int) → z ≤ 200000 → sel (btOf a i == 0) (some (wrapK .i64 (z + 1), y ++ [btOf a i])) (some (0, y ++ [btOf a i])) = some ((tz (y ++ [btOf a i]) : Int), y ++ [btOf a i]) := by
        intro y z hz hz2
        by_cases h0 : btOf a i = 0
        · rw [sel_pos (by simpa using h0), h0, tz_zero, hz, wk (by omega) (by omega)]; rfl
        · rw [sel_neg (by simpa using h0), tz_ne _ _ h0]; rfl
      unfold impl_Escaped_l2
      simp only
      rw [sel_yes (by omega), hc, bnd_s]
      unfold escStep
      by_cases hp : btOf a i < 4 ∧ 2 ≤ tz x
      · rw [sel_yes hp, if_pos hp, req_p (by simp only [List.length_singleton]; omega), bnd_s, req_p (by omega), req_p (by simp only [List.length_append, List.length_singleton]; omega), req_p (by omega)]
        simp only
        rw [last (x ++ [3]) 0 (by rw [tz_ne _ _ (by decide)]; rfl) (by omega), bnd_s, wk (e := (i : Int) + 1) (by omega) (by omega)]
        rfl
      · rw [sel_no hp, if_neg hp, bnd_s, req_p (by omega), req_p (by simp only [List.length_singleton]; omega), req_p (by omega)]
        simp only
        rw [last x _ rfl (by omega), bnd_s, wk (e := (i : Int) + 1) (by omega) (by omega)]
        rfl
  exact key 0 (by omega) [] (by simp)
theorem impl_Escaped_eq (a : ByteArray) (hs : a.size ≤ 9223372036854775807) : impl_Escaped a = some (escV a) := by
  unfold impl_Escaped escV
  rw [size_zero]
  by_cases h : a.size = 0
  · rw [sel_yes h, bnd_s, sel_t, if_neg (by omega)]
  · rw [sel_no h]
    by_cases h1 : (a.size : Int) > 60000
    · rw [sel_yes h1, bnd_s, sel_t, if_neg (by omega)]
    · rw [sel_no h1, wk (e := (a.size : Int) - 1) (by omega) (by omega), req_p (by omega), bnd_s]
      by_cases h2 : btOf a ((a.size : Int) - 1) = 0
      · rw [sel_pos (by simpa using h2), if_neg (fun hh => hh.2.2 h2)]
      · rw [sel_neg (by simpa using h2), if_pos ⟨by omega, by omega, h2⟩, req_p (by omega), tdiv_pos (by omega), wk (e := (a.size : Int) / 2) (by omega) (by omega), wk (e := (a.size : Int) + (a.size : Int) / 2) (by omega) (by omega), req_p (by omega)]
        exact (bnd_e (impl_Escaped_loop a (by omega))).trans rfl
theorem escs_get (l : List ByteArray) (i : Nat) (h : i < l.length) : l.getD i dByteArray = l[i] := getD_at l i h _
theorem spec_Framed_eq (l : List ByteArray) (hs : ∀ u ∈ l, u.size ≤ 9223372036854775807) : spec_Framed l = some (frmV l) := by
  have hm : maxLen = 9223372036854775807 := rfl
  unfold spec_Framed frmV
  by_cases h : (l.length : Int) > 400
  · rw [sel_yes h, if_pos (by omega)]
  · rw [sel_no h, if_neg (by omega)]
    have key : ∀ i : Nat, i ≤ l.length → ∀ x : List Int, x.length ≤ 60000 → ∃ o, loop (spec_Framed_l2 l) ((i : Int), x) = some o ∧ (match o with | .out v => some ((strOfNums v), true) | .ret r => some r) = some (frmL (l.drop i) x) := by
      refine down_to _ ?_ ?_
      · intro x _
        rw [List.drop_eq_nil_of_le (Nat.le_refl _), frmL]
        exact ⟨_, ldone (by unfold spec_Framed_l2; rw [sel_no (by simp)]), rfl⟩
      · intro i hi ih x hx
        have hz := escV_size l[i]
        have hn := numsOf_length (escV l[i]).1
        rw [List.drop_eq_getElem_cons hi, frmL]
        have st : spec_Framed_l2 l ((i : Int), x) = if (escV l[i]).2 = true then (if x.length + 3 + (escV l[i]).1.size > 60000 then some (.done (.ret ((⟨#[]⟩ : ByteArray), false))) else some (.go (((i + 1 : Nat) : Int), (x ++ [0, 0, 1]) ++ numsOf (escV l[i]).1))) else some (.done (.ret ((⟨#[]⟩ : ByteArray), false))) := by
          unfold spec_Framed_l2
          simp only [Int.toNat_natCast]
          rw [sel_yes (by omega), req_p (by omega), escs_get l i hi, spec_Escaped_eq _ (hs _ (List.getElem_mem hi)), bnd_s]
          cases h1 : (escV l[i]).2 with
          | false => rw [if_neg (by simp)]; rfl
          | true =>
            rw [if_pos rfl, Bool.not_true, sel_f, req_p (by simp only [List.length_cons, List.length_nil]; omega), req_p (by simp only [List.length_append, List.length_cons, List.length_nil]; omega), wk (by omega) (by omega)]
            by_cases h2 : x.length + 3 + (escV l[i]).1.size > 60000
            · rw [if_pos h2, sel_yes (by simp only [List.length_append, List.length_cons, List.length_nil]; omega)]
            · rw [if_neg h2, sel_no (by simp only [List.length_append, List.length_cons, List.length_nil]; omega)]
              rfl
        by_cases h1 : (escV l[i]).2 = true
        · rw [if_pos h1] at st ⊢
          by_cases h2 : x.length + 3 + (escV l[i]).1.size > 60000
          · rw [if_pos h2] at st ⊢
            exact ⟨_, ldone st, rfl⟩
          · rw [if_neg h2] at st ⊢
            obtain ⟨o, ho, ho2⟩ := ih ((x ++ [0, 0, 1]) ++ numsOf (escV l[i]).1) (by rw [List.length_append, List.length_append, hn, List.length_cons, List.length_cons, List.length_cons, List.length_nil]; omega)
            exact ⟨o, lgo st ho, ho2⟩
        · rw [if_neg h1] at st ⊢
          exact ⟨_, ldone st, rfl⟩
    obtain ⟨o, ho, ho2⟩ := key 0 (by omega) [] (by simp)
    refine (bnd_e ho).trans ?_
    cases o <;> exact ho2
theorem impl_Framed_eq (l : List ByteArray) (hs : ∀ u ∈ l, u.size ≤ 9223372036854775807) : impl_Framed l = some (frmV l) := by
  have hm : maxLen = 9223372036854775807 := rfl
  unfold impl_Framed frmV
  by_cases h : (l.length : Int) > 400
  · rw [sel_yes h, if_pos (by omega)]
  · rw [sel_no h, if_neg (by omega)]
    have key : ∀ i : Nat, i ≤ l.length → ∀ x : List Int, x.length ≤ 60000 → ∃ o, loop (impl_Framed_l2 l) ((i : Int), x) = some o ∧ (match o with | .out v => some ((strOfNums v), true) | .ret r => some r) = some (frmL (l.drop i) x) := by
      refine down_to _ ?_ ?_
      · intro x _
        rw [List.drop_eq_nil_of_le (Nat.le_refl _), frmL]
        exact ⟨_, ldone (by unfold impl_Framed_l2; rw [sel_no (by simp)]), rfl⟩
      · intro i hi ih x hx
        have hz := escV_size l[i]
        have hn := numsOf_length (escV l[i]).1
        rw [List.drop_eq_getElem_cons hi, frmL]
        have st : impl_Framed_l2 l ((i : Int), x) = if (escV l[i]).2 = true then (if x.length + 3 + (escV l[i]).1.size > 60000 then some (.done (.ret ((⟨#[]⟩ : ByteArray), false))) else some (.go (((i + 1 : Nat) : Int), (x ++ [0, 0, 1]) ++ numsOf (escV l[i]).1))) else some (.done (.ret ((⟨#[]⟩ : ByteArray), false))) := by
          unfold impl_Framed_l2
          simp only [Int.toNat_natCast]
          rw [sel_yes (by omega), req_p (by omega), escs_get l i hi, impl_Escaped_eq _ (hs _ (List.getElem_mem hi)), bnd_s]
          cases h1 : (escV l[i]).2 with
          | false => rw [if_neg (by simp)]; rfl
          | true =>
            rw [if_pos rfl, sel_t, bnd_s, wk (e := (x.length : Int) + 3) (by omega) (by omega), wk (e := (x.length : Int) + 3 + _) (by omega) (by omega)]
            by_cases h2 : x.length + 3 + (escV l[i]).1.size > 60000
            · rw [if_pos h2, sel_yes (by omega)]
            · rw [if_neg h2, sel_no (by omega), req_p (by simp only [List.length_cons, List.length_nil]; omega), req_p (by simp only [List.length_append, List.length_cons, List.length_nil]; omega), wk (by omega) (by omega)]
              rfl
        by_cases h1 : (escV l[i]).2 = true
        · rw [if_pos h1] at st ⊢
          by_cases h2 : x.length + 3 + (escV l[i]).1.size > 60000
          · rw [if_pos h2] at st ⊢
            exact ⟨_, ldone st, rfl⟩
          · rw [if_neg h2] at st ⊢
            obtain ⟨o, ho, ho2⟩ := ih ((x ++ [0, 0, 1]) ++ numsOf (escV l[i]).1) (by rw [List.length_append, List.length_append, hn, List.length_cons, List.length_cons, List.length_cons, List.length_nil]; omega)
            exact ⟨o, lgo st ho, ho2⟩
        · rw [if_neg h1] at st ⊢
          exact ⟨_, ldone st, rfl⟩
    obtain ⟨o, ho, ho2⟩ := key 0 (by omega) [] (by simp)
    refine (bnd_e ho).trans ?_
    cases o <;> exact ho2
theorem un_end (a : ByteArray) : (bnd (sel (escV (strOfNums (unL [] (numsOf a)))).2 (some (!((escV (strOfNums (unL [] (numsOf a)))).1.toList == a.toList))) (some true)) fun v13 => sel v13 (some ((⟨#[]⟩ : ByteArray), false)) (some ((strOfNums (unL [] (numsOf a))), true))) = some (unV a) := by
  unfold unV
  by_cases h1 : (escV (strOfNums (unL [] (numsOf a)))).2 = true
  · rw [h1, sel_t, bnd_s, sel_n]
    by_cases h2 : (escV (strOfNums (unL [] (numsOf a)))).1 = a
    · rw [if_pos (Prod.ext h2 h1), h2, sel_pos (by simp)]
    · rw [if_neg (fun h => h2 (by rw [h])), sel_neg (by rw [beq_eq_false_iff_ne]; exact fun h => h2 (toList_inj.1 h))]
  · rw [sel_neg (by simpa using h1), bnd_s, sel_t, if_neg (fun h => h1 (by rw [h]))]
theorem spec_Unescaped_eq (a : ByteArray) (hs : a.size ≤ 60000) : spec_Unescaped a = some (unV a) := by
  have hm : maxLen = 9223372036854775807 := rfl
  unfold spec_Unescaped
  rw [sel_no (by omega)]
  have hl := numsOf_length a
  have key : ∀ i : Nat, i ≤ a.size → ∀ o : List Int, o.length ≤ i → loop (spec_Unescaped_l2 a) ((i : Int), o) = some (o ++ unL ((numsOf a).take i) ((numsOf a).drop i)) := by
    refine down_to _ ?_ ?_
    · intro o ho
      rw [List.drop_eq_nil_of_le (by omega), unL, List.append_nil]
      exact ldone (by unfold spec_Unescaped_l2; rw [sel_no (by simp)])
    · intro i hi ih o ho
      rw [unL_step a i hi]
      have ht := tz_two ((numsOf a).take i)
      have htl : ((numsOf a).take i).length = i := by rw [List.length_take]; omega
      rw [htl] at ht
      have hc : (sel (decide ((i : Int) ≥ 2)) (
          req (0 ≤ (i : Int) ∧ (i : Int) < a.size) <|
          sel ((btOf a i) == 3) (
          req (0 ≤ (wrapK .i64 ((i : Int) - 1)) ∧ (wrapK .i64 ((i : Int) - 1)) < a.size) <|
          sel ((btOf a (wrapK .i64 ((i : Int) - 1))) == 0) (
          req (0 ≤ (wrapK .i64 ((i : Int) - 2)) ∧ (wrapK .i64 ((i : Int) - 2)) < a.size) <|
          some ((btOf a (wrapK .i64 ((i : Int) - 2))) == 0)) (
          some false)) (
          some false)) (
          some false)) = some (decide (btOf a i = 3 ∧ 2 ≤ tz ((numsOf a).take i))) := by
        rw [wk (e := (i : Int) - 1) (by omega) (by omega), wk (e := (i : Int) - 2) (by omega) (by omega)]
        by_cases h2 : (i : Int) ≥ 2
        · rw [rd_take _ _ _ (by omega), rd_take _ _ _ (by omega), rd_nums, rd_nums] at ht
          rw [sel_yes h2, req_p (by omega), req_p (by omega), req_p (by omega)]
          by_cases h3 : btOf a i = 3
          · rw [sel_pos (by simpa using h3)]
            by_cases h4 : btOf a ((i : Int) - 1) = 0
            · rw [sel_pos (by simpa using h4), beq_dec]
              congr 1; rw [decide_eq_decide]
              exact ⟨fun h5 => ⟨h3, ht.2 ⟨by omega, h4, h5⟩⟩, fun h => (ht.1 h.2).2.2⟩
            · rw [sel_neg (by simpa using h4), decide_eq_false (fun h => h4 (ht.1 h.2).2.1)]
          · rw [sel_neg (by simpa using h3), decide_eq_false (fun h => h3 h.1)]
        · rw [sel_no h2, decide_eq_false (fun h => by have := (ht.1 h.2).1; omega)]
      by_cases hp : btOf a i = 3 ∧ 2 ≤ tz ((numsOf a).take i)
      · rw [if_pos hp, List.nil_append]
        refine lgo (y := (((i + 1 : Nat) : Int), o)) ?_ (ih o (by omega))
        unfold spec_Unescaped_l2
        simp only
        rw [sel_yes (by omega), hc, bnd_s, sel_yes hp, bnd_s, wk (by omega) (by omega)]
        rfl
      · rw [if_neg hp, ← List.append_assoc]
        refine lgo (y := (((i + 1 : Nat) : Int), o ++ [btOf a i])) ?_ (ih _ (by simp; omega))
        unfold spec_Unescaped_l2
        simp only
        rw [sel_yes (by omega), hc, bnd_s, sel_no hp, req_p (by omega), req_p (by simp only [List.length_singleton]; omega), bnd_s, wk (by omega) (by omega)]
        rfl
  refine (bnd_e (key 0 (by omega) [] (by simp))).trans ?_
  rw [List.take_zero, List.drop_zero, List.nil_append]
  have hb := unL_length (numsOf a) []
  rw [spec_Escaped_eq _ (by rw [strOfNums_size]; omega), bnd_s]
  exact un_end a
theorem impl_Unescaped_eq (a : ByteArray) (hs : a.size ≤ 60000) : impl_Unescaped a = some (unV a) := by
  have hm : maxLen = 9223372036854775807 := rfl
  unfold impl_Unescaped
  rw [req_p (by omega)]
  have hl := numsOf_length a
  have key : ∀ i : Nat, i ≤ a.size → ∀ o : List Int, o.length ≤ i → loop (impl_Unescaped_l2 a) ((tz ((numsOf a).take i) : Int), (i : Int), o) = some (o ++ unL ((numsOf a).take i) ((numsOf a).drop i)) := by
    refine down_to _ ?_ ?_
    · intro o ho
      rw [List.drop_eq_nil_of_le (by omega), unL, List.append_nil]
      exact ldone (by unfold impl_Unescaped_l2; rw [sel_no (by simp)])
    · intro i hi ih o ho
      rw [unL_step a i hi]
      have htl : ((numsOf a).take i).length = i := by rw [List.length_take]; omega
      have hz := tz_le ((numsOf a).take i)
      have hz1 : tz ((numsOf a).take (i + 1)) = if btOf a i = 0 then tz ((numsOf a).take i) + 1 else 0 := by
        rw [take_succ_rd _ _ (by omega), rd_nums]
        split
        · rename_i h0; rw [h0, tz_zero]
        · rename_i h0; rw [tz_ne _ _ h0]
      have hc : (sel (decide ((tz ((numsOf a).take i) : Int) ≥ 2)) (
          req (0 ≤ (i : Int) ∧ (i : Int) < a.size) <|
          some ((btOf a i) == 3)) (
          some false)) = some (decide (btOf a i = 3 ∧ 2 ≤ tz ((numsOf a).take i))) := by
        rw [req_p (by omega), sel_and]
        congr 1
        rw [Bool.eq_iff_iff]
        simp only [Bool.and_eq_true, decide_eq_true_eq, beq_iff_eq]
        omega
      by_cases hp : btOf a i = 3 ∧ 2 ≤ tz ((numsOf a).take i)
      · rw [if_pos hp, List.nil_append]
        refine lgo (y := ((tz ((numsOf a).take (i + 1)) : Int), ((i + 1 : Nat) : Int), o)) ?_ (ih o (by omega))
        rw [hz1, if_neg (by omega)]
        unfold impl_Unescaped_l2 joinK
        simp only
        rw [sel_yes (by omega), hc, bnd_s, sel_yes hp, bnd_s, wk (by omega) (by omega)]
        rfl
      · rw [if_neg hp, ← List.append_assoc]
        refine lgo (y := ((tz ((numsOf a).take (i + 1)) : Int), ((i + 1 : Nat) : Int), o ++ [btOf a i])) ?_ (ih _ (by simp; omega))
        rw [hz1]
        unfold impl_Unescaped_l2 joinK
        simp only
        rw [sel_yes (by omega), hc, bnd_s, sel_no hp, req_p (by omega)]
        by_cases h0 : btOf a i = 0
        · rw [sel_pos (by simpa using h0), if_pos h0, req_p (by omega), req_p (by simp only [List.length_singleton]; omega), bnd_s, wk (e := (i : Int) + 1) (by omega) (by omega), wk (by omega) (by omega)]
          rfl
        · rw [sel_neg (by simpa using h0), if_neg h0, req_p (by omega), req_p (by simp only [List.length_singleton]; omega), bnd_s, wk (e := (i : Int) + 1) (by omega) (by omega)]
          rfl
  refine (bnd_e (key 0 (by omega) [] (by simp))).trans ?_
  rw [List.take_zero, List.drop_zero, List.nil_append]
  have hb := unL_length (numsOf a) []
  rw [impl_Escaped_eq _ (by rw [strOfNums_size]; omega), bnd_s]
  exact un_end a
theorem uV_is {g : Option (List ByteArray × Bool)} (s : ByteArray) (hA : ∀ l, frmV l = (s, true) → g = some (l, true)) (hB : ∃ r, g = some r ∧ (r = ([], false) ∨ r.2 = true ∧ frmV r.1 = (s, true))) : g = some (uV s) := by
  rcases uV_or s with ⟨l, h1, e⟩ | ⟨hn, e⟩
  · rw [e]; exact hA l h1
  · rw [e]
    obtain ⟨r, hr, h | h⟩ := hB
    · rw [← h]; exact hr
    · exact absurd ⟨r.1, h.2⟩ hn
theorem impl_places_eq (s : ByteArray) (hs : s.size ≤ 60000) : impl_places s = some (scan3 0 (numsOf s)) := by
  have hm : maxLen = 9223372036854775807 := rfl
  unfold impl_places
  have hl := numsOf_length s
  have key : ∀ i : Nat, i ≤ s.size → ∀ x : List Int, x.length ≤ i → loop (impl_places_l2 s) ((i : Int), x) = some (x ++ scan3 i ((numsOf s).drop i)) := by
    refine down_to _ ?_ ?_
    · intro x _
      rw [List.drop_eq_nil_of_le (by omega), scan3, List.append_nil]
      exact ldone (by unfold impl_places_l2; simp only; rw [wk (by omega) (by omega), sel_no (by omega)])
    · intro i hi ih x hx
      by_cases h3 : i + 3 ≤ s.size
      · have e3 : wrapK .i64 ((i : Int) + 3) = ((i + 3 : Nat) : Int) := by rw [wk (by omega) (by omega)]; omega
        have hh := hit_at s i h3
        have st : ∀ b : Bool, ((s.extract i (i + 3)).toList == (⟨#[0, 0, 1]⟩ : ByteArray).toList) = b → impl_places_l2 s ((i : Int), x) = some (.go (((i + 1 : Nat) : Int), if b = true then x ++ [(i : Int)] else x)) := by
          intro b hb
          unfold impl_places_l2
          simp only
          rw [e3, sel_yes (by omega), req_p (by omega), Int.toNat_natCast, Int.toNat_natCast, hb, wk (by omega) (by omega)]
          cases b with
          | true => rw [sel_t, req_p (by simp only [List.length_singleton]; omega), bnd_s]; rfl
          | false => rw [sel_f, bnd_s]; rfl
        rw [rd_drop0 _ _ (by omega)] at hh ⊢
        rw [scan3]
        by_cases h : (s.extract i (i + 3)).toList = ([0, 0, 1] : List UInt8)
        · rw [if_pos (hh.1 h)]
          have := ih (x ++ [(i : Int)]) (by simp; omega)
          rw [List.append_assoc] at this
          exact lgo (st true (by rw [h, ByteArray.toList_eq]; rfl)) this
        · rw [if_neg (fun h' => h (hh.2 h'))]
          exact lgo (st false (by rw [beq_eq_false_iff_ne, ByteArray.toList_eq (⟨#[0, 0, 1]⟩ : ByteArray)]; exact h)) (ih x (by omega))
      · rw [scan_short _ _ (by rw [List.length_drop]; omega), List.append_nil]
        exact ldone (by unfold impl_places_l2; simp only; rw [wk (by omega) (by omega), sel_no (by omega)])
  exact (bnd_e (key 0 (by omega) [] (by simp))).trans rfl
noncomputable def finI (s : ByteArray) (o : Ou (List ByteArray) (List ByteArray × Bool)) : Option (List ByteArray × Bool) := match o with
  | .out v7 => (
    bnd (impl_Framed v7) fun q10 =>
    bnd (
    sel q10.2 (
    some (!(q10.1.toList == s.toList))) (
    some true)) fun v11 =>
    sel v11 (
    some (([] : List ByteArray), false)) (
    some (v7, true)))
  | .ret r => some r
theorem endV_fin (v : List ByteArray) (s : ByteArray) : (bnd (sel (frmV v).2 (some (!((frmV v).1.toList == s.toList))) (some true)) fun v11 => sel v11 (some (([] : List ByteArray), false)) (some (v, true))) = some (endV v s) := by
  unfold endV
  by_cases h1 : (frmV v).2 = true
  · rw [if_pos h1, h1, sel_t, bnd_s, sel_n]
    by_cases h2 : (frmV v).1.toList = s.toList
    · rw [if_pos h2, sel_pos (by simpa using h2)]
    · rw [if_neg h2, sel_neg (by simpa using h2)]
  · rw [if_neg h1, sel_neg (by simpa using h1), bnd_s, sel_t]
theorem finI_out (s : ByteArray) (v : List ByteArray) (hv : ∀ u ∈ v, u.size ≤ 60000) : finI s (.out v) = some (endV v s) := by
  unfold finI
  simp only
  rw [impl_Framed_eq v (fun u hu => by have := hv u hu; omega), bnd_s]
  exact endV_fin v s
def ranI (s : ByteArray) (q1 : List Int) (v : Int × List ByteArray) (r : List ByteArray × Bool) : Prop := ∃ o, loop (impl_Unframed_l2 s q1) v = some o ∧ finI s o = some r
theorem ranI_go {s : ByteArray} {q1 : List Int} {v v' : Int × List ByteArray} {r : List ByteArray × Bool} (h : impl_Unframed_l2 s q1 v = some (.go v')) (k : ranI s q1 v' r) : ranI s q1 v r := by
  obtain ⟨o, h1, h2⟩ := k
  exact ⟨o, lgo h h1, h2⟩
theorem ranI_done {s : ByteArray} {q1 : List Int} {v : Int × List ByteArray} {r : List ByteArray × Bool} {o : Ou (List ByteArray) (List ByteArray × Bool)} (h : impl_Unframed_l2 s q1 v = some (.done o)) (k : finI s o = some r) : ranI s q1 v r := ⟨o, ldone h, k⟩
theorem unf_end (s : ByteArray) (q1 P : List Int) (hP : q1 ++ [(s.size : Int)] = P) (i : Nat) (x : List ByteArray) (hi : P.length ≤ i + 1) (hi2 : i ≤ 100000) : impl_Unframed_l2 s q1 ((i : Int), x) = some (.done (.out x)) := by
  unfold impl_Unframed_l2
  simp only [hP]
  rw [wk (e := (i : Int) + 1) (by omega) (by omega), sel_no (by omega)]
theorem unf_go (s : ByteArray) (hs : s.size ≤ 60000) (q1 P : List Int) (hP : q1 ++ [(s.size : Int)] = P) (i : Nat) (x : List ByteArray) (hi : i + 1 < P.length) (hi2 : i ≤ 100000) (hx : x.length ≤ 100000) (a b : Int) (ha : rd P i = a) (hb : rd P ((i + 1 : Nat) : Int) = b) (a0 : 0 ≤ a) (ab : a + 3 ≤ b) (bs : b ≤ s.size) :
    impl_Unframed_l2 s q1 ((i : Int), x) = if (unV (s.extract (a + 3).toNat b.toNat)).2 = true then some (.go (((i + 1 : Nat) : Int), x ++ [(unV (s.extract (a + 3).toNat b.toNat)).1])) else some (.done (.ret ([], false))) := by
  have hm : maxLen = 9223372036854775807 := rfl
  have eX : (s.extract (a + 3).toNat b.toNat).size ≤ 60000 := by rw [ByteArray.size_extract]; omega
  unfold impl_Unframed_l2
  simp only [hP]
  rw [wk (e := (i : Int) + 1) (by omega) (by omega), show (i : Int) + 1 = ((i + 1 : Nat) : Int) by omega, sel_yes (by omega), req_p (by omega), req_p (by omega), req_p (by omega), req_p (by omega), rd_def, rd_def, ha, hb, wk (e := a + 3) (by omega) (by omega), req_p (by omega), impl_Unescaped_eq _ eX, bnd_s]
  cases h : (unV (s.extract (a + 3).toNat b.toNat)).2 with
  | true => rw [if_pos rfl, Bool.not_true, sel_f, req_p (by simp only [List.length_singleton]; omega)]
  | false => rw [if_neg (by simp)]; rfl
theorem impl_Unframed_any (s : ByteArray) (hs : s.size ≤ 60000) (q1 P : List Int) (eP : q1 ++ [(s.size : Int)] = P) (hP : P.length ≤ 60001) : ∀ i, i ≤ P.length → 1 ≤ P.length → (∀ t p, P.drop i = t → 0 ≤ p → (∃ q, t = q ++ [(s.size : Int)] ∧ chain3 s.size p q) ∨ t = [] → ∀ x : List ByteArray, x.length ≤ i → (∀ u ∈ x, u.size ≤ 60000) → ∃ r, ranI s q1 ((i : Int), x) r ∧ (r = ([], false) ∨ r.2 = true ∧ frmV r.1 = (s, true))) := by
  have fin : ∀ (i : Nat) (x : List ByteArray), i ≤ P.length → P.length ≤ i + 1 → (∀ u ∈ x, u.size ≤ 60000) → ∃ r, ranI s q1 ((i : Int), x) r ∧ (r = ([], false) ∨ r.2 = true ∧ frmV r.1 = (s, true)) := by
    intro i x hi hi2 hx
    exact ⟨endV x s, ranI_done (unf_end s q1 P eP i x hi2 (by omega)) (finI_out s x hx), endV_or x s⟩
  refine down_to _ ?_ ?_
  · intro _ t p ht hp hc x hx hxs
    exact fin _ x (Nat.le_refl _) (by omega) hxs
  · intro i hi ih h1 t p ht hp hc x hx hxs
    rw [rd_drop0 P i hi] at ht
    by_cases h2 : i + 1 < P.length
    · rw [rd_drop0 P (i + 1) h2] at ht
      obtain ⟨q, hq, hch⟩ : ∃ q, t = q ++ [(s.size : Int)] ∧ chain3 s.size p q := by
        rcases hc with hc | hc
        · exact hc
        · rw [hc] at ht; simp at ht
      match q, hq, hch with
      | [], hq, _ => rw [hq] at ht; simp at ht
      | a :: q', hq, hch =>
        obtain ⟨hpa, hch'⟩ := hch
        rw [hq, List.cons_append, List.cons.injEq] at ht
        obtain ⟨e1, e2⟩ := ht
        have hb : a + 3 ≤ rd P ((i + 1 : Nat) : Int) ∧ rd P ((i + 1 : Nat) : Int) ≤ s.size := by
          match q', e2, hch' with
          | [], e2, hch' => rw [List.nil_append, List.cons.injEq] at e2; simp [chain3] at hch'; omega
          | b :: q'', e2, hch' =>
            rw [List.cons_append, List.cons.injEq] at e2
            have hbn : ∀ (t : List Int) (p : Int), chain3 (s.size : Int) p t → p ≤ s.size := by
              intro t
              induction t with
              | nil => intro p h; exact h
              | cons c t iht => intro p h; have := iht _ h.2; have := h.1; omega
            have := hbn _ _ hch'.2
            have := hch'.1
            omega
        have eX : (s.extract (a + 3).toNat (rd P ((i + 1 : Nat) : Int)).toNat).size ≤ 60000 := by rw [ByteArray.size_extract]; omega
        have hih := fun x' hx' hxs' => ih h1 (q' ++ [(s.size : Int)]) (a + 3) (by rw [← e2, rd_drop0 P (i + 1) h2]) (by omega) (Or.inl ⟨q', rfl, hch'⟩) x' hx' hxs'
        have st := unf_go s hs q1 P eP i x h2 (by omega) (by omega) a _ e1 rfl (by omega) hb.1 hb.2
        by_cases ho : (unV (s.extract (a + 3).toNat (rd P ((i + 1 : Nat) : Int)).toNat)).2 = true
        · rw [if_pos ho] at st
          obtain ⟨r, hr, hr2⟩ := hih (x ++ [(unV (s.extract (a + 3).toNat (rd P ((i + 1 : Nat) : Int)).toNat)).1]) (by simp; omega) (by
            intro u hu
            rw [List.mem_append] at hu
            rcases hu with hu | hu
            · exact hxs u hu
            · rw [List.mem_singleton] at hu; rw [hu]; exact unV_size _ eX)
          exact ⟨r, ranI_go st hr, hr2⟩
        · rw [if_neg ho] at st
          exact ⟨([], false), ranI_done st rfl, Or.inl rfl⟩
    · exact fin i x (by omega) (by omega) hxs
theorem impl_Unframed_l (s : ByteArray) (hs : s.size ≤ 60000) (q1 P : List Int) (eP : q1 ++ [(s.size : Int)] = P) (hP : P.length ≤ 60001) (l : List ByteArray) (hf : frmV l = (s, true)) :
    ∀ (us : List ByteArray) (p i : Nat) (x : List ByteArray), (∀ u ∈ us, (escV u).2 = true) → P.drop i = posL p us ++ [(s.size : Int)] → (numsOf s).drop p = frB us → x ++ us = l → ranI s q1 ((i : Int), x) (l, true) := by
  obtain ⟨_, he, hl4, _⟩ := frmV_true l s hf
  intro us
  induction us with
  | nil =>
    intro p i x _ hd _ hx
    rw [List.append_nil] at hx
    rw [hx]
    have hi : i + 1 = P.length := by have := congrArg List.length hd; simp [posL] at this; omega
    refine ranI_done (unf_end s q1 P eP i l (by omega) (by omega)) ?_
    rw [finI_out s l (fun u hu => (escV_bytes u (he u hu)).2.2.1), endV_true l s hf]
  | cons u us ih =>
    intro p i x hu hd hb hx
    have hu0 := hu u (List.mem_cons_self)
    rw [frB] at hb
    obtain ⟨c1, c2, c3⟩ := chunk_esc s u _ p hb
    have hE := (escV_body u hu0).1
    rw [posL, List.cons_append] at hd
    have hi : i < P.length := by
      rcases Nat.lt_or_ge i P.length with h | h
      · exact h
      · rw [List.drop_eq_nil_of_le h] at hd; simp at hd
    rw [rd_drop0 P i hi, List.cons.injEq] at hd
    obtain ⟨hd1, hd2⟩ := hd
    have hi2 : i + 1 < P.length := by
      rcases Nat.lt_or_ge (i + 1) P.length with h | h
      · exact h
      · rw [List.drop_eq_nil_of_le h] at hd2; simp at hd2
    have hq : rd P ((i + 1 : Nat) : Int) = (p : Int) + 3 + ((escV u).1.size : Int) := by
      have hd3 := hd2
      rw [rd_drop0 P (i + 1) hi2] at hd3
      cases us with
      | nil =>
        rw [posL, List.nil_append, List.cons.injEq] at hd3
        simp [frB] at c3
        omega
      | cons v vs =>
        rw [posL, List.cons_append, List.cons.injEq] at hd3
        exact hd3.1
    have hxl : x.length ≤ 400 := by rw [← hx, List.length_append] at hl4; omega
    have st := unf_go s hs q1 P eP i x hi2 (by omega) (by omega) p _ hd1 hq (by omega) (by omega) (by omega)
    rw [show ((p : Int) + 3).toNat = p + 3 by omega, show ((p : Int) + 3 + ((escV u).1.size : Int)).toNat = p + 3 + (escV u).1.size by omega, c1, unV_esc u hu0, if_pos rfl] at st
    refine ranI_go st ?_
    exact ih (p + 3 + (escV u).1.size) (i + 1) (x ++ [u]) (fun v hv => hu v (List.mem_cons_of_mem _ hv)) (by rw [hd2]; simp) c2 (by rw [← hx]; simp)
theorem impl_Unframed_eq (s : ByteArray) (hs : s.size ≤ 60000) : impl_Unframed s = some (uV s) := by
  have hm : maxLen = 9223372036854775807 := rfl
  unfold impl_Unframed
  rw [sel_no (by omega), impl_places_eq s hs, bnd_s]
  have hl := numsOf_length s
  have hc := scan_ch (numsOf s).length (numsOf s) 0 (Nat.le_refl _)
  have hlen : (scan3 0 (numsOf s)).length ≤ 60000 := by
    have : ∀ (L : List Int) (p : Int), (scan3 p L).length ≤ L.length := by
      intro L
      induction L with
      | nil => intro p; simp [scan3]
      | cons c r ih => intro p; have := ih (p + 1); rw [scan3]; split <;> simp <;> omega
    have := this (numsOf s) 0
    omega
  rw [req_p (by simp only [List.length_singleton]; omega)]
  have fin : ∀ r, ranI s (scan3 0 (numsOf s)) (0, []) r → (bnd (loop (impl_Unframed_l2 s (scan3 0 (numsOf s))) (0, ([] : List ByteArray))) fun o9 => finI s o9) = some r := by
    intro r ⟨o, h1, h2⟩
    exact (bnd_e h1).trans h2
  refine uV_is s (fun l hf => ?_) ?_
  · obtain ⟨e1, e2, _, _⟩ := frmV_true l s hf
    have := scan_frB l 0 e2
    rw [← e1] at this
    exact fin _ (impl_Unframed_l s hs _ _ rfl (by simp; omega) l hf l 0 0 [] e2 (by rw [this]; rfl) (by rw [e1]; rfl) rfl)
  · obtain ⟨r, hr, h2⟩ := impl_Unframed_any s hs _ _ rfl (by simp; omega) 0 (by simp) (by simp) _ 0 rfl (by omega) (Or.inl ⟨_, List.drop_zero .., by rw [hl, Int.zero_add] at hc; exact hc⟩) [] (by simp) (by simp)
    exact ⟨r, fin _ hr, h2⟩
noncomputable def closeU (s : ByteArray) (v17 : Int × Int × List ByteArray) : Option (List ByteArray) :=
  bnd (
  bnd (
  sel (decide (v17.1 ≥ 0)) (
  some (decide (v17.1 ≤ v17.2.1))) (
  some false)) fun v39 =>
  sel v39 (
  bnd (loop (spec_UnitsIn_l50 s v17) v17.2.1) fun v45 =>
  req (0 ≤ v17.1 ∧ v17.1 ≤ v45 ∧ v45 ≤ (s.size : Int)) <|
  bnd (spec_Unescaped (s.extract v17.1.toNat v45.toNat)) fun q48 =>
  bnd (
  sel q48.2 (
  some (decide ((v17.2.2.length : Int) < 400))) (
  some false)) fun v49 =>
  sel v49 (
  req ((v17.2.2.length + ([q48.1]).length) * 16 ≤ 140737488355328 ∧ v17.2.2.length + ([q48.1]).length ≤ maxLen) <|
  some (v17.2.2 ++ ([q48.1]))) (
  some v17.2.2)) (
  some v17.2.2)) fun v38 => some v38
theorem bnd_mid (z : Option (List ByteArray)) (c j : Int) : (bnd (bnd z fun v => some (c, v)) fun w => some (Lp.go (w.1, j, w.2)) : Option (Lp (Int × Int × List ByteArray) (List ByteArray))) = bnd (bnd z fun v => some v) fun y => some (Lp.go (c, j, y)) := by cases z <;> rfl
theorem units_step (s : ByteArray) (hs : s.size ≤ 60000) (b : Int) (i : Nat) (x : List ByteArray) (hi : i ≤ s.size) :
    spec_UnitsIn_l42 s (b, (i : Int), x) = if hit3 ((numsOf s).drop i) ∨ i = s.size then bnd (closeU s (b, (i : Int), x)) (fun y => some (.go ((i : Int) + 3, ((i + 1 : Nat) : Int), y))) else some (.go (b, ((i + 1 : Nat) : Int), x)) := by
  have hl := numsOf_length s
  have hh : hit3 ((numsOf s).drop i) ↔ btOf s i = 0 ∧ btOf s ((i : Int) + 1) = 0 ∧ btOf s ((i : Int) + 2) = 1 := by
    unfold hit3
    rw [rd_dropi _ _ _ (by omega), rd_dropi _ _ _ (by omega), rd_dropi _ _ _ (by omega), Int.add_zero, rd_nums, rd_nums, rd_nums]
  have hc : (sel (decide ((wrapK .i64 ((i : Int) + 2)) < (s.size : Int))) (
      req (0 ≤ (i : Int) ∧ (i : Int) < s.size) <|
      sel ((btOf s i) == 0) (
      req (0 ≤ (wrapK .i64 ((i : Int) + 1)) ∧ (wrapK .i64 ((i : Int) + 1)) < s.size) <|
      sel ((btOf s (wrapK .i64 ((i : Int) + 1))) == 0) (
      req (0 ≤ (wrapK .i64 ((i : Int) + 2)) ∧ (wrapK .i64 ((i : Int) + 2)) < s.size) <|
      some ((btOf s (wrapK .i64 ((i : Int) + 2))) == 1)) (
      some false)) (
      some false)) (
      some false)) = some (decide (hit3 ((numsOf s).drop i))) := by
    rw [wk (e := (i : Int) + 1) (by omega) (by omega), wk (e := (i : Int) + 2) (by omega) (by omega)]
    by_cases h1 : (i : Int) + 2 < s.size
    · rw [sel_yes h1, req_p (by omega), req_p (by omega), req_p (by omega), sel_and, sel_and]
      congr 1
      rw [Bool.eq_iff_iff]
      simp only [Bool.and_eq_true, decide_eq_true_eq, beq_iff_eq]
      exact hh.symm
    · rw [sel_no h1, decide_eq_false (fun h => ?_)]
      have := (hh.1 h).2.2
      rw [← rd_nums, rd_over _ _ (by omega)] at this
      omega
  unfold spec_UnitsIn_l42
  simp only
  rw [sel_yes (by omega), hc, bnd_s, wk (e := (i : Int) + 1) (by omega) (by omega), wk (e := (i : Int) + 3) (by omega) (by omega)]
  have hv : sel (decide (hit3 ((numsOf s).drop i))) (some false) (some (decide ((i : Int) < (s.size : Int)))) = some (!decide (hit3 ((numsOf s).drop i) ∨ i = s.size)) := by
    rw [sel_nand]
    refine congrArg some ?_
    rw [Bool.eq_iff_iff]
    simp only [Bool.and_eq_true, Bool.not_eq_true', decide_eq_true_eq, decide_eq_false_iff_not]
    constructor
    · intro ⟨g1, g2⟩ g
      rcases g with g | g
      · exact g1 g
      · omega
    · intro g
      refine ⟨fun g1 => g (Or.inl g1), ?_⟩
      have : ¬ i = s.size := fun g1 => g (Or.inr g1)
      omega
  rw [hv, bnd_s, sel_n, sel_d]
  by_cases hp : hit3 ((numsOf s).drop i) ∨ i = s.size
  · rw [if_pos hp, if_pos hp]
    have e1 : ((i + 1 : Nat) : Int) = (i : Int) + 1 := by omega
    rw [e1]
    unfold closeU
    simp only
    exact bnd_mid _ _ _
  · rw [if_neg hp, if_neg hp, bnd_s]
    rfl
theorem units_over (s : ByteArray) (b : Int) (x : List ByteArray) : spec_UnitsIn_l42 s (b, ((s.size + 1 : Nat) : Int), x) = some (.done x) := by
  unfold spec_UnitsIn_l42
  rw [sel_no (by simp only; omega)]
theorem l50_any (s : ByteArray) (b i : Int) (x : List ByteArray) (h0 : 0 ≤ b) : ∀ e : Int, b ≤ e → e ≤ s.size → (s.size : Int) ≤ 60000 → ∃ e', loop (spec_UnitsIn_l50 s (b, i, x)) e = some e' ∧ b ≤ e' ∧ e' ≤ e := by
  intro e h1 h2 h3
  refine loop_inv (f := spec_UnitsIn_l50 s (b, i, x)) (fun v => b ≤ v ∧ v ≤ s.size) (fun v => (v - b).toNat) (fun v o => b ≤ o ∧ o ≤ v) ?_ e ⟨h1, h2⟩
  intro v ⟨g1, g2⟩
  unfold spec_UnitsIn_l50
  simp only
  by_cases hv : v > b
  · rw [sel_yes hv, wk (e := v - 1) (by omega) (by omega), req_p (by omega), bnd_s]
    cases (btOf s (v - 1) == 0) with
    | true => exact .inr ⟨_, rfl, by omega, by omega, fun o ho => by omega⟩
    | false => exact .inl ⟨_, rfl, by omega⟩
  · rw [sel_no hv, bnd_s, sel_f]
    exact .inl ⟨_, rfl, by omega⟩
theorem closeU_no (s : ByteArray) (b i : Int) (x : List ByteArray) (h : ¬ (0 ≤ b ∧ b ≤ i)) : closeU s (b, i, x) = some x := by
  unfold closeU
  simp only
  rw [sel_and, bnd_s, sel_neg (by rw [Bool.eq_false_iff]; simp only [ne_eq, Bool.and_eq_true, decide_eq_true_eq]; omega), bnd_s]
theorem closeU_at (s : ByteArray) (hs : s.size ≤ 60000) (b i e : Int) (x : List ByteArray) (hx : x.length ≤ 400) (h0 : 0 ≤ b) (h1 : b ≤ i) (he : loop (spec_UnitsIn_l50 s (b, i, x)) i = some e) (h2 : b ≤ e) (h3 : e ≤ s.size) :
    closeU s (b, i, x) = some (if (unV (s.extract b.toNat e.toNat)).2 = true ∧ x.length < 400 then x ++ [(unV (s.extract b.toNat e.toNat)).1] else x) := by
  have hm : maxLen = 9223372036854775807 := rfl
  unfold closeU
  simp only
  rw [sel_and, bnd_s, sel_pos (by simp only [Bool.and_eq_true, decide_eq_true_eq]; omega), he, bnd_s, req_p (by omega), spec_Unescaped_eq _ (by rw [ByteArray.size_extract]; omega), bnd_s, sel_and, bnd_s]
  by_cases hp : (unV (s.extract b.toNat e.toNat)).2 = true ∧ x.length < 400
  · rw [if_pos hp, sel_pos (by rw [Bool.and_eq_true, decide_eq_true_eq]; exact ⟨hp.1, by omega⟩), req_p (by simp only [List.length_singleton]; omega), bnd_s]
  · rw [if_neg hp, sel_neg (by rw [Bool.eq_false_iff]; simp only [ne_eq, Bool.and_eq_true, decide_eq_true_eq]; exact fun h => hp ⟨h.1, by omega⟩), bnd_s]
theorem closeU_any (s : ByteArray) (hs : s.size ≤ 60000) (b : Int) (i : Nat) (x : List ByteArray) (hi : i ≤ s.size) (hx : x.length ≤ 400) (hxs : ∀ u ∈ x, u.size ≤ 60000) : ∃ y, closeU s (b, (i : Int), x) = some y ∧ y.length ≤ 400 ∧ ∀ u ∈ y, u.size ≤ 60000 := by
  by_cases hb : 0 ≤ b ∧ b ≤ (i : Int)
  · obtain ⟨e, he, h1, h2⟩ := l50_any s b i x hb.1 i hb.2 (by omega) (by omega)
    refine ⟨_, closeU_at s hs b i e x hx hb.1 hb.2 he h1 (by omega), ?_, ?_⟩
    · split
      · simp; omega
      · exact hx
    · intro u hu
      split at hu
      · rw [List.mem_append] at hu
        rcases hu with hu | hu
        · exact hxs u hu
        · rw [List.mem_singleton] at hu; rw [hu]; exact unV_size _ (by rw [ByteArray.size_extract]; omega)
      · exact hxs u hu
  · exact ⟨x, closeU_no s b i x hb, hx, hxs⟩
theorem closeU_esc (s : ByteArray) (hs : s.size ≤ 60000) (x : List ByteArray) (hx : x.length < 400) (u : ByteArray) (hu : (escV u).2 = true) (b i : Nat) (hb : b + (escV u).1.size = i) (hi : i ≤ s.size) (hc : s.extract b i = (escV u).1) : closeU s ((b : Int), (i : Int), x) = some (x ++ [u]) := by
  obtain ⟨h1, _, h3⟩ := escV_body u hu
  have hl : btOf s ((i : Int) - 1) ≠ 0 := by
    rw [← hc, numsOf_extract, hc, rd_dropi _ _ _ (by omega), rd_take _ _ _ (by omega), rd_nums] at h3
    rwa [show (b : Int) + (((escV u).1.size : Int) - 1) = (i : Int) - 1 by omega] at h3
  have he : loop (spec_UnitsIn_l50 s ((b : Int), (i : Int), x)) (i : Int) = some (i : Int) := by
    refine ldone ?_
    unfold spec_UnitsIn_l50
    simp only
    rw [sel_yes (by omega), wk (e := (i : Int) - 1) (by omega) (by omega), req_p (by omega), bnd_s, sel_neg (by simpa using hl)]
  rw [closeU_at s hs b i i x (by omega) (by omega) (by omega) he (by omega) (by omega), Int.toNat_natCast, Int.toNat_natCast, hc, unV_esc u hu, if_pos ⟨rfl, hx⟩]
theorem units_any (s : ByteArray) (hs : s.size ≤ 60000) : ∀ i : Nat, i ≤ s.size + 1 → ∀ (x : List ByteArray) (b : Int), x.length ≤ 400 → (∀ u ∈ x, u.size ≤ 60000) → ∃ r, loop (spec_UnitsIn_l42 s) (b, (i : Int), x) = some r ∧ ∀ u ∈ r, u.size ≤ 60000 := by
  refine down_to _ ?_ ?_
  · intro x b hx hxs
    exact ⟨x, ldone (units_over s b x), hxs⟩
  · intro i hi ih x b hx hxs
    have st := units_step s hs b i x (by omega)
    by_cases hh : hit3 ((numsOf s).drop i) ∨ i = s.size
    · obtain ⟨y, y1, y2, y3⟩ := closeU_any s hs b i x (by omega) hx hxs
      rw [if_pos hh, y1, bnd_s] at st
      obtain ⟨r, hr, hr2⟩ := ih y _ y2 y3
      exact ⟨r, lgo st hr, hr2⟩
    · rw [if_neg hh] at st
      obtain ⟨r, hr, hr2⟩ := ih x b hx hxs
      exact ⟨r, lgo st hr, hr2⟩
theorem units_run (s : ByteArray) (hs : s.size ≤ 60000) (x : List ByteArray) (b : Int) (r : List ByteArray) (j : Nat) (hj : j ≤ s.size) (h : loop (spec_UnitsIn_l42 s) (b, (j : Int), x) = some r) : ∀ n i, i + n = j → (∀ m, i ≤ m → m < j → ¬ hit3 ((numsOf s).drop m)) → loop (spec_UnitsIn_l42 s) (b, (i : Int), x) = some r
  | 0, i, e, _ => by rw [show i = j by omega]; exact h
  | n + 1, i, e, hn => by
    have st := units_step s hs b i x (by omega)
    rw [if_neg (fun h => by rcases h with h | h; exact hn i (Nat.le_refl _) (by omega) h; omega)] at st
    exact lgo st (units_run s hs x b r j hj h n (i + 1) (by omega) (fun m h1 h2 => hn m (by omega) h2))
theorem units_l (s : ByteArray) (hs : s.size ≤ 60000) (l : List ByteArray) (hl4 : l.length ≤ 400) :
    ∀ (us : List ByteArray) (p : Nat) (x y : List ByteArray) (b : Int), p ≤ s.size → (∀ u ∈ us, (escV u).2 = true) → (numsOf s).drop p = frB us → y ++ us = l → closeU s (b, (p : Int), x) = some y → loop (spec_UnitsIn_l42 s) (b, (p : Int), x) = some l := by
  intro us
  induction us with
  | nil =>
    intro p x y b hp _ hb hy hc
    rw [List.append_nil] at hy
    have e := congrArg List.length hb
    rw [List.length_drop, numsOf_length] at e
    simp [frB] at e
    have hps : p = s.size := by omega
    have st := units_step s hs b p x hp
    rw [if_pos (Or.inr hps), hc, bnd_s] at st
    refine lgo st ?_
    rw [hps, hy]
    exact ldone (units_over s _ l)
  | cons u us ih =>
    intro p x y b hp hu hb hy hc
    have hu0 := hu u (List.mem_cons_self)
    rw [frB] at hb
    obtain ⟨c1, c2, c3⟩ := chunk_esc s u _ p hb
    have hE := (escV_body u hu0).1
    have hyl : y.length < 400 := by rw [← hy, List.length_append, List.length_cons] at hl4; omega
    have st := units_step s hs b p x hp
    rw [if_pos (Or.inl (by rw [hb]; exact hit_mk _)), hc, bnd_s] at st
    refine lgo st ?_
    refine units_run s hs y _ l (p + 3 + (escV u).1.size) (by omega) ?_ (2 + (escV u).1.size) (p + 1) (by omega) ?_
    · refine ih (p + 3 + (escV u).1.size) y (y ++ [u]) _ (by omega) (fun v hv => hu v (List.mem_cons_of_mem _ hv)) c2 (by rw [← hy]; simp) ?_
      have := closeU_esc s hs y hyl u hu0 (p + 3) (p + 3 + (escV u).1.size) rfl (by omega) c1
      exact this
    · intro m h1 h2 hh
      by_cases h3 : p + 3 ≤ m
      · have := esc_noHit u hu0 (frB us) (m - (p + 3)) (by rw [numsOf_length]; omega)
        refine this ?_
        have e : (numsOf s).drop (p + 3) = numsOf (escV u).1 ++ frB us := by rw [← List.drop_drop, hb]; rfl
        rw [← e, List.drop_drop, show p + 3 + (m - (p + 3)) = m by omega]
        exact hh
      · have e : (numsOf s).drop m = ([0, 0, 1] ++ (numsOf (escV u).1 ++ frB us)).drop (m - p) := by rw [← hb, List.drop_drop, show p + (m - p) = m by omega]
        rw [e] at hh
        rcases (show m - p = 1 ∨ m - p = 2 by omega) with h4 | h4
        · rw [h4] at hh; simp [hit3, rd] at hh
        · rw [h4] at hh; simp [hit3, rd] at hh
theorem spec_Unframed_eq (s : ByteArray) (hs : s.size ≤ 60000) : spec_Unframed s = some (uV s) := by
  have hE : ∀ r : List ByteArray, (∀ u ∈ r, u.size ≤ 60000) → loop (spec_UnitsIn_l42 s) ((-1), 0, []) = some r → spec_Unframed s = some (endV r s) := by
    intro r hr h
    unfold spec_Unframed spec_UnitsIn
    rw [sel_no (by omega), h, bnd_s, bnd_s, spec_Framed_eq r (fun u hu => by have := hr u hu; omega), bnd_s]
    exact endV_fin r s
  refine uV_is s (fun l hf => ?_) ?_
  · obtain ⟨e1, e2, e3, _⟩ := frmV_true l s hf
    rw [← endV_true l s hf]
    exact hE l (fun u hu => (escV_bytes u (e2 u hu)).2.2.1) (units_l s hs l e3 l 0 [] [] (-1) (by omega) e2 (by rw [List.drop_zero, e1]) rfl (closeU_no s _ _ _ (by omega)))
  · obtain ⟨r, hr, hr2⟩ := units_any s hs 0 (by omega) [] (-1) (by simp) (by simp)
    exact ⟨endV r s, hE r hr2 hr, endV_or r s⟩
def picAt (l : List Packet) (i : Int) : Bool :=
  packetOk (l.getD i.toNat dPacket) && ((l.getD i.toNat dPacket).First == (i == 0)) && ((l.getD i.toNat dPacket).Last == (i == (l.length : Int) - 1)) && (if i > 0 then (l.getD i.toNat dPacket).Seq == seqPlus (l.getD (i - 1).toNat dPacket).Seq 1 else true)
theorem spec_pic_step (l : List Packet) (i : Nat) (hi : i < l.length) (hl : l.length ≤ 60) (s : ByteArray) (hs : s.size ≤ 400 * i) :
    spec_PictureOf_l2 l (s, (i : Int)) = if picAt l i = true then some (.go (s ++ (l.getD i dPacket).Bytes, ((i + 1 : Nat) : Int))) else some (.done (.ret ([], false))) := by
  unfold spec_PictureOf_l2 picAt
  simp only [Int.toNat_natCast]
  rw [wk (e := (l.length : Int) - 1) (by omega) (by omega), wk (e := (i : Int) - 1) (by omega) (by omega), wk (e := (i : Int) + 1) (by omega) (by omega)]
  obtain ⟨p, hp⟩ : ∃ p, l.getD i dPacket = p := ⟨_, rfl⟩
  obtain ⟨pq, hq⟩ : ∃ p, l.getD ((i : Int) - 1).toNat dPacket = p := ⟨_, rfl⟩
  simp only [hp, hq]
  rw [sel_yes (by omega), req_p (by omega), spec_PacketOk_eq, bnd_s]
  obtain ⟨sq, f, la, b⟩ := p
  simp only
  cases h1 : packetOk ⟨sq, f, la, b⟩ with
  | false => rfl
  | true =>
    have h1' := (packetOk_iff _).1 h1
    simp only at h1'
    rw [sel_t, req_p (by omega)]
    cases h2 : (f == ((i : Int) == 0)) with
    | false => rfl
    | true =>
      rw [sel_t, req_p (by omega), bnd_s]
      cases h3 : (la == ((i : Int) == (l.length : Int) - 1)) with
      | false => rfl
      | true =>
        rw [Bool.not_true, sel_f]
        by_cases h0 : (i : Int) > 0
        · rw [sel_yes h0, req_p (by omega), req_p (by omega), spec_SeqPlus_eq, bnd_s, bnd_s, if_pos h0, bne]
          cases h4 : (sq == seqPlus pq.Seq 1) with
          | false => rfl
          | true =>
            rw [Bool.not_true, sel_f, req_p (by omega), req_p (by omega)]
            rfl
        · rw [sel_no h0, bnd_s, sel_f, if_neg h0, req_p (by omega), req_p (by omega)]
          rfl
theorem impl_pic_step (l : List Packet) (i : Nat) (hi : i < l.length) (hl : l.length ≤ 60) (s : ByteArray) (hs : s.size ≤ 400 * i) :
    impl_PictureOf_l2 l (s, (i : Int)) = if picAt l i = true then some (.go (s ++ (l.getD i dPacket).Bytes, ((i + 1 : Nat) : Int))) else some (.done (.ret ([], false))) := by
  unfold impl_PictureOf_l2 picAt
  simp only [Int.toNat_natCast]
  rw [wk (e := (l.length : Int) - 1) (by omega) (by omega), wk (e := (i : Int) - 1) (by omega) (by omega), wk (e := (i : Int) + 1) (by omega) (by omega)]
  obtain ⟨p, hp⟩ : ∃ p, l.getD i dPacket = p := ⟨_, rfl⟩
  obtain ⟨pq, hq⟩ : ∃ p, l.getD ((i : Int) - 1).toNat dPacket = p := ⟨_, rfl⟩
  simp only [hp, hq]
  rw [sel_yes (by omega), req_p (by omega), impl_PacketOk_eq, bnd_s]
  obtain ⟨sq, f, la, b⟩ := p
  simp only
  cases h1 : packetOk ⟨sq, f, la, b⟩ with
  | false => rfl
  | true =>
    have h1' := (packetOk_iff _).1 h1
    simp only at h1'
    rw [sel_t]
    cases h2 : (f == ((i : Int) == 0)) with
    | false => rfl
    | true =>
      rw [sel_t]
      cases h3 : (la == ((i : Int) == (l.length : Int) - 1)) with
      | false => rfl
      | true =>
        rw [sel_t]
        by_cases h0 : (i : Int) > 0
        · rw [sel_yes h0, req_p (by omega), impl_SeqPlus_eq, bnd_s, bnd_s, if_pos h0, bne]
          cases h4 : (sq == seqPlus pq.Seq 1) with
          | false => rfl
          | true =>
            rw [Bool.not_true, sel_f, req_p (by omega)]
            rfl
        · rw [sel_no h0, bnd_s, sel_f, if_neg h0, req_p (by omega)]
          rfl
theorem picAt_size {l : List Packet} {i : Nat} (h : picAt l i = true) : 1 ≤ (l.getD i dPacket).Bytes.size ∧ (l.getD i dPacket).Bytes.size ≤ 400 := by
  unfold picAt at h
  simp only [Bool.and_eq_true, Int.toNat_natCast] at h
  have := (packetOk_iff _).1 h.1.1.1
  omega
theorem pic_loops (l : List Packet) (hl : l.length ≤ 60) (hn : 1 ≤ l.length) : ∃ o, loop (spec_PictureOf_l2 l) (⟨#[]⟩, 0) = some o ∧ loop (impl_PictureOf_l2 l) (⟨#[]⟩, 0) = some o ∧ (o = .ret ([], false) ∨ ∃ v : ByteArray, o = .out v ∧ 1 ≤ v.size ∧ v.size ≤ 24000) := by
  have key : ∀ i : Nat, i ≤ l.length → ∀ s : ByteArray, s.size ≤ 400 * i → (1 ≤ i → 1 ≤ s.size) → ∃ o, loop (spec_PictureOf_l2 l) (s, (i : Int)) = some o ∧ loop (impl_PictureOf_l2 l) (s, (i : Int)) = some o ∧ (o = .ret ([], false) ∨ ∃ v : ByteArray, o = .out v ∧ 1 ≤ v.size ∧ v.size ≤ 24000) := by
    refine down_to _ ?_ ?_
    · intro s h1 h2
      refine ⟨.out s, ldone ?_, ldone ?_, Or.inr ⟨s, rfl, h2 hn, by omega⟩⟩
      · unfold spec_PictureOf_l2; rw [sel_no (by simp)]
      · unfold impl_PictureOf_l2; rw [sel_no (by simp)]
    · intro i hi ih s h1 h2
      have s1 := spec_pic_step l i hi hl s h1
      have s2 := impl_pic_step l i hi hl s h1
      by_cases hp : picAt l i = true
      · rw [if_pos hp] at s1 s2
        have hz := picAt_size hp
        have hc : (s ++ (l.getD i dPacket).Bytes).size = s.size + (l.getD i dPacket).Bytes.size := ByteArray.size_append
        obtain ⟨o, o1, o2, o3⟩ := ih (s ++ (l.getD i dPacket).Bytes) (by omega) (by omega)
        exact ⟨o, lgo s1 o1, lgo s2 o2, o3⟩
      · rw [if_neg hp] at s1 s2
        exact ⟨_, ldone s1, ldone s2, Or.inl rfl⟩
  exact key 0 (by omega) ⟨#[]⟩ (by show (0 : Nat) ≤ _; omega) (by omega)
theorem PictureOf_both (l : List Packet) : ∃ r, spec_PictureOf l = some r ∧ impl_PictureOf l = some r ∧ r.1.length ≤ 400 := by
  unfold spec_PictureOf impl_PictureOf
  rw [spec_l01In_eq, bnd_s, impl_within_eq, bnd_s]
  by_cases h : 1 ≤ (l.length : Int) ∧ (l.length : Int) ≤ 60
  · rw [decide_eq_true h, Bool.not_true, sel_f, sel_f]
    obtain ⟨o, o1, o2, o3⟩ := pic_loops l (by omega) (by omega)
    rw [o1, o2, bnd_s, bnd_s]
    rcases o3 with rfl | ⟨v, rfl, v1, v2⟩
    · exact ⟨_, rfl, rfl, by simp⟩
    · refine ⟨uV v, ?_, ?_, uV_length v⟩
      · simp only
        rw [spec_Unframed_eq v (by omega), bnd_s]
      · simp only
        rw [impl_Unframed_eq v (by omega), bnd_s]
        cases h2 : (uV v).2 with
        | true =>
          have h3 := uV_size v v1 h2
          have h4 : ((((uV v).1.length : Nat) : Int) == 0) = false := by
            rw [beq_eq_false_iff_ne]
            intro e
            exact h3 (List.eq_nil_of_length_eq_zero (by omega))
          rw [sel_t, bnd_s, h4, sel_f, ← h2]
        | false =>
          rcases uV_or v with ⟨x, _, e⟩ | ⟨_, e⟩
          · rw [e] at h2; cases h2
          · rw [e]; rfl
  · rw [decide_eq_false h]
    exact ⟨_, rfl, rfl, by simp⟩
theorem FnExactPictureOf {p0 : List Packet} (h0 : p0.length ≤ maxLen ∧ ∀ y ∈ p0, okPacket y) : laws_FnExactPictureOf p0 = some true := by
  have hm : maxLen = 9223372036854775807 := rfl
  unfold laws_FnExactPictureOf
  obtain ⟨t, e, t1, t2, t3⟩ := laws_szPacketS_ev p0 h0.1 (fun x hx => by have := h0.2 x hx; unfold okPacket at this; exact this.2.2.2) 1048576 (by omega) (by omega)
  rw [e, bnd_s]
  by_cases ht : t < 0
  · rw [sel_yes ht]
  rw [sel_no ht]
  have hl : p0.length ≤ 1048576 := by have := t2 (by omega); omega
  obtain ⟨r, r1, r2, r3⟩ := PictureOf_both p0
  simp only [laws_toPacketS_eq p0 hl, bnd_s, r1, r2, laws_eqStringS_self r.1 (by omega), sel_t, beq_self_eq_true, Bool.not_true, sel_f, laws_eqPacketS_self p0 (by omega), laws_markPacketS_eq p0 1 (by omega) (by omega) (by omega), laws_markStringS_eq r.1 1 (by omega) (by omega) (by omega), laws_heldStringS_eq r.1 1 (by omega) (by omega) (by omega), bne_self_eq_false]
  rw [sel_no (by omega), bnd_s, sel_f, sel_no (by omega), sel_no (by omega)]
end Go.Proofs.Ytplmeeookgefnaa.A.Pure
